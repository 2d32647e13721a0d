-- written by a program of this session (wip/pp): see NOTES.md
import Derived.Test.YtjkhckbfkinheaaGAax0
import Derived.Test.YtjkhckbfkinheaaGAax2
import Derived.Test.YtjkhckbfkinheaaGAax13
namespace Go.Proofs.Ytjkhckbfkinheaa.GAa
open Go.RowKit Go.Proofs.YtjkhckbfkinheaaW.PrintWords Go.Proofs.YtjkhckbfkinheaaW.PrintLast Go.Proofs.YtjkhckbfkinheaaW.PrintMore
attribute [local go_sem] max2_int min2_int max_two min_two max_three min_three max_four min_four   -- for this text's walks alone
attribute [local go_sem high] binOp_flss binOp_fgtr binOp_fleq binOp_fgeq binOp_feql binOp_fneq run_fadd run_fsub run_fmul run_fquo unary_fneg run_ftoint run_fofint run_feqIn ext_bits ext_frombits ext_trunc
set_option linter.unusedVariables false
set_option linter.unusedSimpArgs false

/-! ### scopedv_known: function 33 -/
def scopedv_known.j0 : Nat → Int → Nat → Bool → Int → Int → Nat → Nat → Int → Int → Int → Nat → Int → Nat → Int → Option (Int × Int × Nat × Int × Nat × Int × Bool)
 | 0, _, _, _, _, _, _, _, _, _, _, _, _, _, _ => none
 | k + 1, x0, x10, x28, x483000, x483001, x483002, x483003, x483004, x486000, x486001, x486002, x486003, x486004, x486005 => if x28 = true then (some (x486000, x486001, x486002, x486003, x486004, x486005, false)) else (if (fLt x10 x483003) = true then (some (x486000, x486001, x486002, x486003, x486004, x486005, true)) else (if (fEq x10 x483003) = true then (some (x486000, 3, x486002, x486003, x486004, x486005, (x483004 == x0))) else (some (x486000, 3, x486002, x486003, x486004, x486005, false))))
def scopedv_known.f (k : Nat) (a0 : Int) (a1_0 : Int) (a1_1 : Nat) (l1_2 : List (S56)) (a2_0 : Int) (a2_1 : Int) (a2_2 : Nat) (a2_3 : Nat) (a2_4 : Int) (a3 : Nat) : Option (Int × Int × Nat × Int × Nat × Int × Bool) := (metric_Add.f k a1_1 a2_2 a3).bind fun t484 => ((math_IsInf.f t484 1).bind fun t486 => (if t486 = true then (scopedv_known.j0 k a0 t484 true a2_0 a2_1 a2_2 a2_3 a2_4 a2_0 2 t484 a1_0 a2_3 a2_4) else (scopedv_known.j0 k a0 t484 (a2_0 == a0) a2_0 a2_1 a2_2 a2_3 a2_4 a2_0 2 t484 a1_0 a2_3 a2_4)))
def scopedv_known.T8 : Bool × List (List Nat × List Nat) := (true, [([], []), ([], []), ([], []), ([2], [2]), ([1, 3], [1, 3]), ([4], [4]), ([5], [5]), ([6, 5], [5, 6]), ([5], [5]), ([7, 8, 5], [5, 7, 8]), ([5, 9], [5, 9]), ([0, 5, 0], [0]), ([10, 11, 0, 1, 2, 3, 4, 5, 6, 7, 8, 9, 10, 11], [10])])
def scopedv_known.B8 : List Nat := [0, 0, 0, 4, 14, 30, 62, 126, 62, 510, 1022, 63, 4095]
theorem scopedv_known.tab8 : rtab .any (opsOf Try.f33 8) = scopedv_known.T8 := by kernel_rfl
theorem scopedv_known.bits8 : waitsOk scopedv_known.T8.2 scopedv_known.B8 = true := by kernel_rfl
set_option maxHeartbeats 8000000 in
set_option maxRecDepth 100000 in
theorem scopedv_known.calls (k : Nat) (a0 : Int) (a1_0 : Int) (a1_1 : Nat) (A1_2 : Option Addr) (c1_2 : Nat) (l1_2 : List (S56)) (a2_0 : Int) (a2_1 : Int) (a2_2 : Nat) (a2_3 : Nat) (a2_4 : Int) (a3 : Nat) (r1 : Int) (r2 : Int) (r3 : Nat) (r4 : Int) (r5 : Nat) (r6 : Int) (r7 : Bool) (w : World) (hr1_2 : Kd.C k56 w A1_2 l1_2.length l1_2) (hc1_2 : l1_2.length ≤ c1_2) (h : scopedv_known.f k a0 a1_0 a1_1 l1_2 a2_0 a2_1 a2_2 a2_3 a2_4 a3 = some (r1, r2, r3, r4, r5, r6, r7)) :
  Calls Try.prog 33 #[.int .i64 a0, .agg #[.int .i64 a1_0, .float .f64 a1_1, .slice A1_2 l1_2.length c1_2], .agg #[.int .i64 a2_0, .int .i64 a2_1, .float .f64 a2_2, .float .f64 a2_3, .int .i64 a2_4], .float .f64 a3] w fun e w' => e = .returned (.tuple #[.agg #[.int .i64 r1, .int .i64 r2, .float .f64 r3, .int .i64 r4, .float .f64 r5, .int .i64 r6], .bool r7]) ∧ Below w.heap.size w w' := by
 have hu54 := Try.underlying54
 have hu56 := Try.underlying56
 have hu58 := Try.underlying58
 have HR1_2 := Aside0.mk hr1_2
 have HC1_2 := Aside0.mk hc1_2
 clear hr1_2 hc1_2
 have HB := Aside0.mk (Below.refl w.heap.size w)
 have H : ((metric_Add.f k a1_1 a2_2 a3).bind fun t484 => ((math_IsInf.f t484 1).bind fun t486 => (if t486 = true then (scopedv_known.j0 k a0 t484 true a2_0 a2_1 a2_2 a2_3 a2_4 a2_0 2 t484 a1_0 a2_3 a2_4) else (scopedv_known.j0 k a0 t484 (a2_0 == a0) a2_0 a2_1 a2_2 a2_3 a2_4 a2_0 2 t484 a1_0 a2_3 a2_4)))) = some (r1, r2, r3, r4, r5, r6, r7) := h
 clear h
 replace H := bs_ H; obtain ⟨t484, A5, H⟩ := H
 have HC6 := Aside0.mk H
 clear H
 go_enter Try.func33, Try.ntmps33
 go_upto_region 3 with (first | ((with_reducible refine gate_dst (N := 5) rfl ?_); refine bx_ (N := 5) #[.int .i64 a1_0, .float .f64 a1_1, .slice A1_2 l1_2.length c1_2] 54 ⟨fb⟩ ?_; clear HB; intro gb481 w7 HB BK481 GE481; have GW481 := GE481) | ((with_reducible refine gate_dst (N := 6) rfl ?_); refine bz_ (N := 6) #[.int .i64 a2_0, .int .i64 a2_1, .float .f64 a2_2, .float .f64 a2_3, .int .i64 a2_4] 56 ?_; intro gb482 hg w8 hbox hb; have n0_ := Aside0.mk (blk_below (g := gb481) (o := .cells #[.int .i64 a1_0, .float .f64 a1_1, .slice A1_2 l1_2.length c1_2] 54 (0, 0)) (kp BK481.out) hb); have n1_ := Aside0.mk (below_step (fb1 GE481) hb); have n2_ := Aside0.mk (hbox); have n3_ := Aside0.mk ((by rw [hg]; exact (below_size (fb1 GE481)) : w.heap.size ≤ gb482)); have n4_ := Aside0.mk ((by rw [hg]; exact (below_size (fb1 GE481)) : w.heap.size ≤ gb482)); have n5_ := Aside0.mk ((by rw [hg]; exact Nat.ne_of_lt (blk_lt (g := gb481) (o := .cells #[.int .i64 a1_0, .float .f64 a1_1, .slice A1_2 l1_2.length c1_2] 54 (0, 0)) (kp BK481.out)) : gb481 ≠ gb482)); have n6_ := Aside0.mk ((by rw [hg]; exact Nat.ne_of_gt (blk_lt (g := gb481) (o := .cells #[.int .i64 a1_0, .float .f64 a1_1, .slice A1_2 l1_2.length c1_2] 54 (0, 0)) (kp BK481.out)) : gb482 ≠ gb481)); clear BK481; clear HB; have BK481 := n0_; have HB := n1_; have BK482 := n2_; have GW482 := n3_; have GE482 := n4_; have NB481_482 := n5_; have NB482_481 := n6_; clear n0_ n1_ n2_ n3_ n4_ n5_ n6_; clear hb hbox hg) | ((with_reducible refine gate_dst (N := 8) rfl ?_); refine bz_ (N := 8) #[.int .i64 0, .int .i64 0, .float .f64 0, .int .i64 0, .float .f64 0, .int .i64 0] 58 ?_; intro gb483 hg w9 hbox hb; have n0_ := Aside0.mk (blk_below (g := gb481) (o := .cells #[.int .i64 a1_0, .float .f64 a1_1, .slice A1_2 l1_2.length c1_2] 54 (0, 0)) (kp BK481.out) hb); have n1_ := Aside0.mk (blk_below (g := gb482) (o := .cells #[.int .i64 a2_0, .int .i64 a2_1, .float .f64 a2_2, .float .f64 a2_3, .int .i64 a2_4] 56 (0, 0)) (kp BK482.out) hb); have n2_ := Aside0.mk (below_step (fb2 GE481 GE482) hb); have n3_ := Aside0.mk (hbox); have n4_ := Aside0.mk ((by rw [hg]; exact (below_size (fb2 GE481 GE482)) : w.heap.size ≤ gb483)); have n5_ := Aside0.mk ((by rw [hg]; exact (below_size (fb2 GE481 GE482)) : w.heap.size ≤ gb483)); have n6_ := Aside0.mk ((by rw [hg]; exact Nat.ne_of_lt (blk_lt (g := gb481) (o := .cells #[.int .i64 a1_0, .float .f64 a1_1, .slice A1_2 l1_2.length c1_2] 54 (0, 0)) (kp BK481.out)) : gb481 ≠ gb483)); have n7_ := Aside0.mk ((by rw [hg]; exact Nat.ne_of_gt (blk_lt (g := gb481) (o := .cells #[.int .i64 a1_0, .float .f64 a1_1, .slice A1_2 l1_2.length c1_2] 54 (0, 0)) (kp BK481.out)) : gb483 ≠ gb481)); have n8_ := Aside0.mk ((by rw [hg]; exact Nat.ne_of_lt (blk_lt (g := gb482) (o := .cells #[.int .i64 a2_0, .int .i64 a2_1, .float .f64 a2_2, .float .f64 a2_3, .int .i64 a2_4] 56 (0, 0)) (kp BK482.out)) : gb482 ≠ gb483)); have n9_ := Aside0.mk ((by rw [hg]; exact Nat.ne_of_gt (blk_lt (g := gb482) (o := .cells #[.int .i64 a2_0, .int .i64 a2_1, .float .f64 a2_2, .float .f64 a2_3, .int .i64 a2_4] 56 (0, 0)) (kp BK482.out)) : gb483 ≠ gb482)); clear BK481; clear BK482; clear HB; have BK481 := n0_; have BK482 := n1_; have HB := n2_; have BK483 := n3_; have GW483 := n4_; have GE483 := n5_; have NB481_483 := n6_; have NB483_481 := n7_; have NB482_483 := n8_; have NB483_482 := n9_; clear n0_ n1_ n2_ n3_ n4_ n5_ n6_ n7_ n8_ n9_; clear hb hbox hg; have hnb10 := NB481_482.out; have hnc10 := NB482_481.out; have hnb11 := NB481_483.out; have hnc11 := NB483_481.out; obtain ⟨hcz12_0, hcz12_1, hcz12_2, hfz12_0, hfz12_1, hfz12_2⟩ := cz3 BK481.out; have hnb13 := NB482_483.out; have hnc13 := NB483_482.out; obtain ⟨hcz14_0, hcz14_1, hcz14_2, hcz14_3, hcz14_4, hfz14_0, hfz14_1, hfz14_2, hfz14_3, hfz14_4⟩ := cz5 BK482.out) | ((with_reducible refine gate_callee (f := 41) rfl ?_); refine gl_ (some 17) Try.func41 #[.float .f64 a1_1, .float .f64 a2_2, .float .f64 a3] ?_; (with_reducible refine (metric_Add.calls k a1_1 a2_2 a3 t484 _ A5.out).mono ?_); rintro e w' ⟨rfl, ⟨nd, rfl⟩⟩; refine ⟨_, rfl, ?_⟩; (try (rw [drewN_self w9]; generalize hq_ : World.drewN w9 _ = w9; have n0_ : Aside0 (w9.heap[gb481]? = some (.cells #[.int .i64 a1_0, .float .f64 a1_1, .slice A1_2 l1_2.length c1_2] 54 (0, 0))) := ⟨by rw [← hq_]; exact (kp BK481.out)⟩; have n1_ : Aside0 (w9.heap[gb482]? = some (.cells #[.int .i64 a2_0, .int .i64 a2_1, .float .f64 a2_2, .float .f64 a2_3, .int .i64 a2_4] 56 (0, 0))) := ⟨by rw [← hq_]; exact (kp BK482.out)⟩; have n2_ : Aside0 (w9.heap[gb483]? = some (.cells #[.int .i64 0, .int .i64 0, .float .f64 0, .int .i64 0, .float .f64 0, .int .i64 0] 58 (0, 0))) := ⟨by rw [← hq_]; exact (kp BK483.out)⟩; have n3_ : Aside0 (Below w.heap.size w w9) := ⟨by rw [← hq_]; exact (by repeat (first | (with_reducible first | exact HB.out | apply below_alloc | apply pw_below_drewN | apply below_drew1 | refine below_set ?_ GE481.out | refine below_set ?_ GE482.out | refine below_set ?_ GE483.out) | exact HB.out))⟩; clear BK481 BK482 BK483 HB hq_; have BK481 := n0_; have BK482 := n1_; have BK483 := n2_; have HB := n3_; clear n0_ n1_ n2_ n3_)); obtain ⟨hcz15_0, hcz15_1, hcz15_2, hcz15_3, hcz15_4, hfz15_0, hfz15_1, hfz15_2, hfz15_3, hfz15_4⟩ := cz5 BK482.out; obtain ⟨hcz16_0, hcz16_1, hcz16_2, hfz16_0, hfz16_1, hfz16_2⟩ := cz3 BK481.out) | ((with_reducible refine gate_dst (N := 11) rfl ?_); refine bz_ (N := 11) #[.int .i64 0, .int .i64 0, .float .f64 0, .int .i64 0, .float .f64 0, .int .i64 0] 58 ?_; intro gb485 hg w17 hbox hb; have n0_ := Aside0.mk (blk_below (g := gb481) (o := .cells #[.int .i64 a1_0, .float .f64 a1_1, .slice A1_2 l1_2.length c1_2] 54 (0, 0)) (kp BK481.out) hb); have n1_ := Aside0.mk (blk_below (g := gb482) (o := .cells #[.int .i64 a2_0, .int .i64 a2_1, .float .f64 a2_2, .float .f64 a2_3, .int .i64 a2_4] 56 (0, 0)) (kp BK482.out) hb); have n2_ := Aside0.mk (blk_below (g := gb483) (o := .cells #[.int .i64 0, .int .i64 0, .float .f64 0, .int .i64 0, .float .f64 0, .int .i64 0] 58 (0, 0)) (kp BK483.out) hb); have n3_ := Aside0.mk (below_step (by repeat (first | (with_reducible first | exact HB.out | apply below_alloc | apply pw_below_drewN | apply below_drew1 | refine below_set ?_ GE481.out | refine below_set ?_ GE482.out | refine below_set ?_ GE483.out) | exact HB.out)) hb); have n4_ := Aside0.mk (hbox); have n5_ := Aside0.mk ((by rw [hg]; exact (below_size (by repeat (first | (with_reducible first | exact HB.out | apply below_alloc | apply pw_below_drewN | apply below_drew1 | refine below_set ?_ GE481.out | refine below_set ?_ GE482.out | refine below_set ?_ GE483.out) | exact HB.out))) : w.heap.size ≤ gb485)); have n6_ := Aside0.mk ((by rw [hg]; exact (below_size (by repeat (first | (with_reducible first | exact HB.out | apply below_alloc | apply pw_below_drewN | apply below_drew1 | refine below_set ?_ GE481.out | refine below_set ?_ GE482.out | refine below_set ?_ GE483.out) | exact HB.out))) : w.heap.size ≤ gb485)); have n7_ := Aside0.mk ((by rw [hg]; exact Nat.ne_of_lt (blk_lt (g := gb481) (o := .cells #[.int .i64 a1_0, .float .f64 a1_1, .slice A1_2 l1_2.length c1_2] 54 (0, 0)) (kp BK481.out)) : gb481 ≠ gb485)); have n8_ := Aside0.mk ((by rw [hg]; exact Nat.ne_of_gt (blk_lt (g := gb481) (o := .cells #[.int .i64 a1_0, .float .f64 a1_1, .slice A1_2 l1_2.length c1_2] 54 (0, 0)) (kp BK481.out)) : gb485 ≠ gb481)); have n9_ := Aside0.mk ((by rw [hg]; exact Nat.ne_of_lt (blk_lt (g := gb482) (o := .cells #[.int .i64 a2_0, .int .i64 a2_1, .float .f64 a2_2, .float .f64 a2_3, .int .i64 a2_4] 56 (0, 0)) (kp BK482.out)) : gb482 ≠ gb485)); have n10_ := Aside0.mk ((by rw [hg]; exact Nat.ne_of_gt (blk_lt (g := gb482) (o := .cells #[.int .i64 a2_0, .int .i64 a2_1, .float .f64 a2_2, .float .f64 a2_3, .int .i64 a2_4] 56 (0, 0)) (kp BK482.out)) : gb485 ≠ gb482)); have n11_ := Aside0.mk ((by rw [hg]; exact Nat.ne_of_lt (blk_lt (g := gb483) (o := .cells #[.int .i64 0, .int .i64 0, .float .f64 0, .int .i64 0, .float .f64 0, .int .i64 0] 58 (0, 0)) (kp BK483.out)) : gb483 ≠ gb485)); have n12_ := Aside0.mk ((by rw [hg]; exact Nat.ne_of_gt (blk_lt (g := gb483) (o := .cells #[.int .i64 0, .int .i64 0, .float .f64 0, .int .i64 0, .float .f64 0, .int .i64 0] 58 (0, 0)) (kp BK483.out)) : gb485 ≠ gb483)); clear BK481; clear BK482; clear BK483; clear HB; have BK481 := n0_; have BK482 := n1_; have BK483 := n2_; have HB := n3_; have BK485 := n4_; have GW485 := n5_; have GE485 := n6_; have NB481_485 := n7_; have NB485_481 := n8_; have NB482_485 := n9_; have NB485_482 := n10_; have NB483_485 := n11_; have NB485_483 := n12_; clear n0_ n1_ n2_ n3_ n4_ n5_ n6_ n7_ n8_ n9_ n10_ n11_ n12_; clear hb hbox hg; have hnb18 := NB485_481.out; have hnc18 := NB481_485.out; have hnb19 := NB485_482.out; have hnc19 := NB482_485.out; have hnb20 := NB485_483.out; have hnc20 := NB483_485.out; obtain ⟨hcz21_0, hcz21_1, hcz21_2, hcz21_3, hcz21_4, hcz21_5, hfz21_0, hfz21_1, hfz21_2, hfz21_3, hfz21_4, hfz21_5⟩ := cz6 BK485.out))
 (try simp only [Act.put, qa, qb, qc])
 go_cut [28] (fun v28 wc => ∃ (kq : Nat) (x28_5 : Bool), v28 = .bool x28_5 ∧ Aside0 (scopedv_known.j0 kq a0 t484 x28_5 a2_0 a2_1 a2_2 a2_3 a2_4 a2_0 2 t484 a1_0 a2_3 a2_4 = some (r1, r2, r3, r4, r5, r6, r7)) ∧ Aside0 (kq ≤ k) ∧ Aside0 (wc.heap[gb481]? = some (.cells #[.int .i64 a1_0, .float .f64 a1_1, (.slice A1_2 l1_2.length c1_2)] 54 (0, 0))) ∧ Aside0 (wc.heap[gb482]? = some (.cells #[.int .i64 a2_0, .int .i64 a2_1, .float .f64 a2_2, .float .f64 a2_3, .int .i64 a2_4] 56 (0, 0))) ∧ Aside0 (wc.heap[gb483]? = some (.cells #[.int .i64 0, .int .i64 0, .float .f64 0, .int .i64 0, .float .f64 0, .int .i64 0] 58 (0, 0))) ∧ Aside0 (wc.heap[gb485]? = some (.cells #[.int .i64 a2_0, .int .i64 2, .float .f64 t484, .int .i64 a1_0, .float .f64 a2_3, .int .i64 a2_4] 58 (0, 0))) ∧ Aside0 (Below w.heap.size w wc))
 case first =>
  have H := HC6.out
  clear HC6
  replace H := bs_ H; obtain ⟨t486, A22, H⟩ := H
  by_cases c23 : t486 = true
  ·subst c23
   have H1 : (scopedv_known.j0 k a0 t484 true a2_0 a2_1 a2_2 a2_3 a2_4 a2_0 2 t484 a1_0 a2_3 a2_4) = some (r1, r2, r3, r4, r5, r6, r7) := by rw [if_pos rfl] at H; exact H
   clear H
   have H := H1
   clear H1
   have H' := Aside0.mk H
   clear H
   go_wp2_with (first | ((with_reducible refine gate_callee (f := 62) rfl ?_); refine gl_ (some 30) Try.func62 #[.float .f64 t484, .int .i64 1] ?_; (with_reducible refine (math_IsInf.calls t484 1 true _ A22.out).mono ?_); rintro e w' ⟨rfl, ⟨nd, rfl⟩⟩; refine ⟨_, rfl, ?_⟩))
   go_meet
   case rel => exact ⟨_, (true), fz, H', ⟨fl⟩, ⟨kp1 NB481_485 BK481.out⟩, ⟨kp1 NB482_485 BK482.out⟩, ⟨kp1 NB483_485 BK483.out⟩, ⟨kp BK485.out⟩, ⟨by repeat (first | (with_reducible first | exact HB.out | apply below_alloc | apply pw_below_drewN | apply below_drew1 | refine below_set ?_ GE481.out | refine below_set ?_ GE482.out | refine below_set ?_ GE483.out | refine below_set ?_ GE485.out) | exact HB.out)⟩⟩
  ·obtain rfl := bf_ c23
   have H1 : (scopedv_known.j0 k a0 t484 (a2_0 == a0) a2_0 a2_1 a2_2 a2_3 a2_4 a2_0 2 t484 a1_0 a2_3 a2_4) = some (r1, r2, r3, r4, r5, r6, r7) := by rw [if_neg (show ¬ (false = true) by decide)] at H; exact H
   clear H
   have H := H1
   clear H1
   have H' := Aside0.mk H
   clear H
   go_wp2_with (first | ((with_reducible refine gate_callee (f := 62) rfl ?_); refine gl_ (some 30) Try.func62 #[.float .f64 t484, .int .i64 1] ?_; (with_reducible refine (math_IsInf.calls t484 1 false _ A22.out).mono ?_); rintro e w' ⟨rfl, ⟨nd, rfl⟩⟩; refine ⟨_, rfl, ?_⟩; have hnb24 := NB482_481.out; have hnc24 := NB481_482.out; have hnb25 := NB482_483.out; have hnc25 := NB483_482.out; have hnb26 := NB482_485.out; have hnc26 := NB485_482.out; obtain ⟨hcz27_0, hcz27_1, hcz27_2, hcz27_3, hcz27_4, hfz27_0, hfz27_1, hfz27_2, hfz27_3, hfz27_4⟩ := cz5 BK482.out))
   go_meet
   case rel => exact ⟨_, ((a2_0 == a0)), fz, H', ⟨fl⟩, ⟨kp1 NB481_485 BK481.out⟩, ⟨kp1 NB482_485 BK482.out⟩, ⟨kp1 NB483_485 BK483.out⟩, ⟨kp BK485.out⟩, ⟨by repeat (first | (with_reducible first | exact HB.out | apply below_alloc | apply pw_below_drewN | apply below_drew1 | refine below_set ?_ GE481.out | refine below_set ?_ GE482.out | refine below_set ?_ GE483.out | refine below_set ?_ GE485.out) | exact HB.out)⟩⟩
 case rest =>
  clear HC6
  (try clear hcz12_0); (try clear hcz12_1); (try clear hcz12_2); (try clear hcz14_0); (try clear hcz14_1); (try clear hcz14_2); (try clear hcz14_3); (try clear hcz14_4); (try clear hcz15_0); (try clear hcz15_1); (try clear hcz15_2); (try clear hcz15_3); (try clear hcz15_4); (try clear hcz16_0); (try clear hcz16_1); (try clear hcz16_2); (try clear hcz21_0); (try clear hcz21_1); (try clear hcz21_2); (try clear hcz21_3); (try clear hcz21_4); (try clear hcz21_5); (try clear hfz12_0); (try clear hfz12_1); (try clear hfz12_2); (try clear hfz14_0); (try clear hfz14_1); (try clear hfz14_2); (try clear hfz14_3); (try clear hfz14_4); (try clear hfz15_0); (try clear hfz15_1); (try clear hfz15_2); (try clear hfz15_3); (try clear hfz15_4); (try clear hfz16_0); (try clear hfz16_1); (try clear hfz16_2); (try clear hfz21_0); (try clear hfz21_1); (try clear hfz21_2); (try clear hfz21_3); (try clear hfz21_4); (try clear hfz21_5)
  obtain ⟨kq, x28_5, rfl, HA, HJ5, BK481, BK482, BK483, BK485, HB⟩ := hcut
  cases kq with
  | zero => exact absurd HA.out (by simp [scopedv_known.j0])
  | succ kj5 =>
   have H := HA.out
   clear HA
   simp only [scopedv_known.j0] at H
   by_cases c28 : x28_5 = true
   ·subst c28
    have H1 : (some (a2_0, 2, t484, a1_0, a2_3, a2_4, false)) = some (r1, r2, r3, r4, r5, r6, r7) := by rw [if_pos rfl] at H; exact H
    clear H
    have H := H1
    clear H1
    simp only [Option.some.injEq, Prod.mk.injEq] at H
    obtain ⟨rfl, rfl, rfl, rfl, rfl, rfl, rfl⟩ := H
    have hnb29 := NB485_481.out
    have hnc29 := NB481_485.out
    have hnb30 := NB485_482.out
    have hnc30 := NB482_485.out
    have hnb31 := NB485_483.out
    have hnc31 := NB483_485.out
    obtain ⟨hcz32_0, hcz32_1, hcz32_2, hcz32_3, hcz32_4, hcz32_5, hfz32_0, hfz32_1, hfz32_2, hfz32_3, hfz32_4, hfz32_5⟩ := cz6 BK485.out
    have hnb33 := NB483_481.out
    have hnc33 := NB481_483.out
    have hnb34 := NB483_482.out
    have hnc34 := NB482_483.out
    obtain ⟨hcz35_0, hcz35_1, hcz35_2, hcz35_3, hcz35_4, hcz35_5, hfz35_0, hfz35_1, hfz35_2, hfz35_3, hfz35_4, hfz35_5⟩ := cz6 BK483.out
    go_wp2
    refine bodyPost_ret (results_ct rfl _ _ gb483 58 #[.int .i64 a2_0, .int .i64 2, .float .f64 t484, .int .i64 a1_0, .float .f64 a2_3, .int .i64 a2_4] (0, 0) _ rfl (kp BK483.out) Try.underlying58 rfl (by kernel_rfl)) rfl ?_
    exact ⟨fe, by repeat (first | (with_reducible first | exact HB.out | apply below_alloc | apply pw_below_drewN | apply below_drew1 | refine below_set ?_ GE481.out | refine below_set ?_ GE482.out | refine below_set ?_ GE483.out | refine below_set ?_ GE485.out) | exact HB.out)⟩
   ·obtain rfl := bf_ c28
    have H1 : (if (fLt t484 a2_3) = true then (some (a2_0, 2, t484, a1_0, a2_3, a2_4, true)) else (if (fEq t484 a2_3) = true then (some (a2_0, 3, t484, a1_0, a2_3, a2_4, (a2_4 == a0))) else (some (a2_0, 3, t484, a1_0, a2_3, a2_4, false)))) = some (r1, r2, r3, r4, r5, r6, r7) := by rw [if_neg (show ¬ (false = true) by decide)] at H; exact H
    clear H
    have H := H1
    clear H1
    by_cases c36 : (fLt t484 a2_3) = true
    ·rw [if_pos c36] at H
     have c36b0 : (fLt t484 a2_3) = true := c36
     clear c36
     simp only [Option.some.injEq, Prod.mk.injEq] at H
     obtain ⟨rfl, rfl, rfl, rfl, rfl, rfl, rfl⟩ := H
     have hnb37 := NB482_481.out
     have hnc37 := NB481_482.out
     have hnb38 := NB482_483.out
     have hnc38 := NB483_482.out
     have hnb39 := NB482_485.out
     have hnc39 := NB485_482.out
     obtain ⟨hcz40_0, hcz40_1, hcz40_2, hcz40_3, hcz40_4, hfz40_0, hfz40_1, hfz40_2, hfz40_3, hfz40_4⟩ := cz5 BK482.out
     have hnb41 := NB485_481.out
     have hnc41 := NB481_485.out
     have hnb42 := NB485_483.out
     have hnc42 := NB483_485.out
     obtain ⟨hcz43_0, hcz43_1, hcz43_2, hcz43_3, hcz43_4, hcz43_5, hfz43_0, hfz43_1, hfz43_2, hfz43_3, hfz43_4, hfz43_5⟩ := cz6 BK485.out
     have hnb44 := NB483_481.out
     have hnc44 := NB481_483.out
     obtain ⟨hcz45_0, hcz45_1, hcz45_2, hcz45_3, hcz45_4, hcz45_5, hfz45_0, hfz45_1, hfz45_2, hfz45_3, hfz45_4, hfz45_5⟩ := cz6 BK483.out
     go_wp2
     refine bodyPost_ret (results_ct rfl _ _ gb483 58 #[.int .i64 a2_0, .int .i64 2, .float .f64 t484, .int .i64 a1_0, .float .f64 a2_3, .int .i64 a2_4] (0, 0) _ rfl (kp BK483.out) Try.underlying58 rfl (by kernel_rfl)) rfl ?_
     exact ⟨fe, by repeat (first | (with_reducible first | exact HB.out | apply below_alloc | apply pw_below_drewN | apply below_drew1 | refine below_set ?_ GE481.out | refine below_set ?_ GE482.out | refine below_set ?_ GE483.out | refine below_set ?_ GE485.out) | exact HB.out)⟩
    ·rw [if_neg c36] at H
     have c36b0 := bf_ c36
     clear c36
     by_cases c46 : (fEq t484 a2_3) = true
     ·rw [if_pos c46] at H
      have c46b0 : (fEq t484 a2_3) = true := c46
      clear c46
      simp only [Option.some.injEq, Prod.mk.injEq] at H
      obtain ⟨rfl, rfl, rfl, rfl, rfl, rfl, rfl⟩ := H
      have hnb47 := NB482_481.out
      have hnc47 := NB481_482.out
      have hnb48 := NB482_483.out
      have hnc48 := NB483_482.out
      have hnb49 := NB482_485.out
      have hnc49 := NB485_482.out
      obtain ⟨hcz50_0, hcz50_1, hcz50_2, hcz50_3, hcz50_4, hfz50_0, hfz50_1, hfz50_2, hfz50_3, hfz50_4⟩ := cz5 BK482.out
      have hnb51 := NB485_481.out
      have hnc51 := NB481_485.out
      have hnb52 := NB485_483.out
      have hnc52 := NB483_485.out
      obtain ⟨hcz53_0, hcz53_1, hcz53_2, hcz53_3, hcz53_4, hcz53_5, hfz53_0, hfz53_1, hfz53_2, hfz53_3, hfz53_4, hfz53_5⟩ := cz6 BK485.out
      try go_wp2
      have n0_ : Aside0 ((wc.setCell ⟨gb485, 1, none⟩ (.int .i64 3)).heap[gb481]? = some (.cells #[.int .i64 a1_0, .float .f64 a1_1, .slice A1_2 l1_2.length c1_2] 54 (0, 0))) := ⟨kp1 NB481_485 BK481.out⟩
      have n1_ : Aside0 ((wc.setCell ⟨gb485, 1, none⟩ (.int .i64 3)).heap[gb482]? = some (.cells #[.int .i64 a2_0, .int .i64 a2_1, .float .f64 a2_2, .float .f64 a2_3, .int .i64 a2_4] 56 (0, 0))) := ⟨kp1 NB482_485 BK482.out⟩
      have n2_ : Aside0 ((wc.setCell ⟨gb485, 1, none⟩ (.int .i64 3)).heap[gb483]? = some (.cells #[.int .i64 0, .int .i64 0, .float .f64 0, .int .i64 0, .float .f64 0, .int .i64 0] 58 (0, 0))) := ⟨kp1 NB483_485 BK483.out⟩
      have n3_ : Aside0 ((wc.setCell ⟨gb485, 1, none⟩ (.int .i64 3)).heap[gb485]? = some (.cells #[.int .i64 a2_0, .int .i64 3, .float .f64 t484, .int .i64 a1_0, .float .f64 a2_3, .int .i64 a2_4] 58 (0, 0))) := ⟨kp BK485.out⟩
      have n4_ : Aside0 (Below w.heap.size w (wc.setCell ⟨gb485, 1, none⟩ (.int .i64 3))) := ⟨by repeat (first | (with_reducible first | exact HB.out | apply below_alloc | apply pw_below_drewN | apply below_drew1 | refine below_set ?_ GE481.out | refine below_set ?_ GE482.out | refine below_set ?_ GE483.out | refine below_set ?_ GE485.out) | exact HB.out)⟩
      (try clear BK481)
      (try clear BK482)
      (try clear BK483)
      (try clear BK485)
      (try clear HB)
      generalize (wc.setCell ⟨gb485, 1, none⟩ (.int .i64 3)) = w54 at n0_ n1_ n2_ n3_ n4_ ⊢
      have BK481 := n0_
      have BK482 := n1_
      have BK483 := n2_
      have BK485 := n3_
      have HB := n4_
      clear n0_ n1_ n2_ n3_ n4_
      have n0_ := Aside0.mk (blk_drew BK481.out)
      have n1_ := Aside0.mk (blk_drew BK482.out)
      have n2_ := Aside0.mk (blk_drew BK483.out)
      have n3_ := Aside0.mk (blk_drew BK485.out)
      have n4_ := Aside0.mk (below_drew1 HB.out)
      clear BK481
      clear BK482
      clear BK483
      clear BK485
      clear HB
      have BK481 := n0_
      have BK482 := n1_
      have BK483 := n2_
      have BK485 := n3_
      have HB := n4_
      clear n0_ n1_ n2_ n3_ n4_
      refine start_ (n := 13) (S := fun w' => w'.cell? ⟨gb485, 0, none⟩ = some (.int .i64 a2_0) ∧ w'.cell? ⟨gb485, 1, none⟩ = some (.int .i64 3) ∧ w'.cell? ⟨gb485, 2, none⟩ = some (.float .f64 t484) ∧ w'.cell? ⟨gb485, 3, none⟩ = some (.int .i64 a1_0) ∧ w'.cell? ⟨gb485, 4, none⟩ = some (.float .f64 a2_3) ∧ w'.cell? ⟨gb485, 5, none⟩ = some (.int .i64 a2_4) ∧ w'.cell? ⟨gb482, 0, none⟩ = some (.int .i64 a2_0) ∧ w'.cell? ⟨gb482, 1, none⟩ = some (.int .i64 a2_1) ∧ w'.cell? ⟨gb482, 2, none⟩ = some (.float .f64 a2_2) ∧ w'.cell? ⟨gb482, 3, none⟩ = some (.float .f64 a2_3) ∧ w'.cell? ⟨gb482, 4, none⟩ = some (.int .i64 a2_4)) (ds := []) (bz 13 0) (by kernel_rfl) rfl rfl ⟨(blk_cell BK485.out 0).trans rfl, (blk_cell BK485.out 1).trans rfl, (blk_cell BK485.out 2).trans rfl, (blk_cell BK485.out 3).trans rfl, (blk_cell BK485.out 4).trans rfl, (blk_cell BK485.out 5).trans rfl, (blk_cell BK482.out 0).trans rfl, (blk_cell BK482.out 1).trans rfl, (blk_cell BK482.out 2).trans rfl, (blk_cell BK482.out 3).trans rfl, (blk_cell BK482.out 4).trans rfl⟩ (fun hHeld => ?_); refine with_tabW scopedv_known.tab8 scopedv_known.bits8 (fun HT_ HW_ => ?_)
      generalize w54.drew = w55 at BK481 BK482 BK483 BK485 HB hHeld ⊢
      refine pu2 1 (some 46) (bz 13 2) ?_
      refine pu2 2 (some 47) (bz 13 6) ?_
      refine tk2 0 (some 45) (bz 13 7) ?_
      refine tk2 3 (some 48) (bz 13 15) ?_
      refine pu2 4 (some 49) (bz 13 31) ?_
      refine pu2 5 (some 50) (bz 13 63) ?_
      refine pu2 6 (some 51) (bz 13 127) ?_
      refine pu2 8 (some 53) (bz 13 383) ?_
      refine tk2 7 (some 52) (bz 13 511) ?_
      refine pu2 9 (some 54) (bz 13 1023) ?_
      refine pu2 10 (some 55) (bz 13 2047) ?_
      refine one_ (i := 11) (N := none) (bz 13 4095) rfl rfl (one_of HT_.out (by kernel_rfl)) (by decide) (fun K hK => ?_)
      have hs56 : w55.cell? ⟨gb483, 0, none⟩ = some (.int .i64 0) := (blk_cell BK483.out 0).trans rfl
      have hfs56 := blk_frozen BK483.out 0
      have hns56_0 := NB481_483.out
      have hns56_1 := NB482_483.out
      have hns56_3 := NB485_483.out
      have hms56_0 := NB483_481.out
      have hms56_1 := NB483_482.out
      have hms56_3 := NB483_485.out
      have hs57 : w55.cell? ⟨gb483, 1, none⟩ = some (.int .i64 0) := (blk_cell BK483.out 1).trans rfl
      have hfs57 := blk_frozen BK483.out 1
      have hns57_0 := NB481_483.out
      have hns57_1 := NB482_483.out
      have hns57_3 := NB485_483.out
      have hms57_0 := NB483_481.out
      have hms57_1 := NB483_482.out
      have hms57_3 := NB483_485.out
      have hs58 : w55.cell? ⟨gb483, 2, none⟩ = some (.float .f64 0) := (blk_cell BK483.out 2).trans rfl
      have hfs58 := blk_frozen BK483.out 2
      have hns58_0 := NB481_483.out
      have hns58_1 := NB482_483.out
      have hns58_3 := NB485_483.out
      have hms58_0 := NB483_481.out
      have hms58_1 := NB483_482.out
      have hms58_3 := NB483_485.out
      have hs59 : w55.cell? ⟨gb483, 3, none⟩ = some (.int .i64 0) := (blk_cell BK483.out 3).trans rfl
      have hfs59 := blk_frozen BK483.out 3
      have hns59_0 := NB481_483.out
      have hns59_1 := NB482_483.out
      have hns59_3 := NB485_483.out
      have hms59_0 := NB483_481.out
      have hms59_1 := NB483_482.out
      have hms59_3 := NB483_485.out
      have hs60 : w55.cell? ⟨gb483, 4, none⟩ = some (.float .f64 0) := (blk_cell BK483.out 4).trans rfl
      have hfs60 := blk_frozen BK483.out 4
      have hns60_0 := NB481_483.out
      have hns60_1 := NB482_483.out
      have hns60_3 := NB485_483.out
      have hms60_0 := NB483_481.out
      have hms60_1 := NB483_482.out
      have hms60_3 := NB483_485.out
      have hs61 : w55.cell? ⟨gb483, 5, none⟩ = some (.int .i64 0) := (blk_cell BK483.out 5).trans rfl
      have hfs61 := blk_frozen BK483.out 5
      have hns61_0 := NB481_483.out
      have hns61_1 := NB482_483.out
      have hns61_3 := NB485_483.out
      have hms61_0 := NB483_481.out
      have hms61_1 := NB483_482.out
      have hms61_3 := NB483_485.out
      refine skip_ (w1 := ?_) (by rfl) rfl ?_ ?_
      rotate_left
      ·go_simp
       rfl
      refine hK.out _ _ ⟨((cell_far (p := ⟨gb483, _, none⟩) NB485_483.out _).trans (((cell_far (p := ⟨gb483, _, none⟩) NB485_483.out _).trans (((cell_far (p := ⟨gb483, _, none⟩) NB485_483.out _).trans (((cell_far (p := ⟨gb483, _, none⟩) NB485_483.out _).trans (((cell_far (p := ⟨gb483, _, none⟩) NB485_483.out _).trans (((cell_far (p := ⟨gb483, _, none⟩) NB485_483.out _).trans (hHeld.1)))))))))))), ((cell_far (p := ⟨gb483, _, none⟩) NB485_483.out _).trans (((cell_far (p := ⟨gb483, _, none⟩) NB485_483.out _).trans (((cell_far (p := ⟨gb483, _, none⟩) NB485_483.out _).trans (((cell_far (p := ⟨gb483, _, none⟩) NB485_483.out _).trans (((cell_far (p := ⟨gb483, _, none⟩) NB485_483.out _).trans (((cell_far (p := ⟨gb483, _, none⟩) NB485_483.out _).trans (hHeld.2.1)))))))))))), ((cell_far (p := ⟨gb483, _, none⟩) NB485_483.out _).trans (((cell_far (p := ⟨gb483, _, none⟩) NB485_483.out _).trans (((cell_far (p := ⟨gb483, _, none⟩) NB485_483.out _).trans (((cell_far (p := ⟨gb483, _, none⟩) NB485_483.out _).trans (((cell_far (p := ⟨gb483, _, none⟩) NB485_483.out _).trans (((cell_far (p := ⟨gb483, _, none⟩) NB485_483.out _).trans (hHeld.2.2.1)))))))))))), ((cell_far (p := ⟨gb483, _, none⟩) NB485_483.out _).trans (((cell_far (p := ⟨gb483, _, none⟩) NB485_483.out _).trans (((cell_far (p := ⟨gb483, _, none⟩) NB485_483.out _).trans (((cell_far (p := ⟨gb483, _, none⟩) NB485_483.out _).trans (((cell_far (p := ⟨gb483, _, none⟩) NB485_483.out _).trans (((cell_far (p := ⟨gb483, _, none⟩) NB485_483.out _).trans (hHeld.2.2.2.1)))))))))))), ((cell_far (p := ⟨gb483, _, none⟩) NB485_483.out _).trans (((cell_far (p := ⟨gb483, _, none⟩) NB485_483.out _).trans (((cell_far (p := ⟨gb483, _, none⟩) NB485_483.out _).trans (((cell_far (p := ⟨gb483, _, none⟩) NB485_483.out _).trans (((cell_far (p := ⟨gb483, _, none⟩) NB485_483.out _).trans (((cell_far (p := ⟨gb483, _, none⟩) NB485_483.out _).trans (hHeld.2.2.2.2.1)))))))))))), ((cell_far (p := ⟨gb483, _, none⟩) NB485_483.out _).trans (((cell_far (p := ⟨gb483, _, none⟩) NB485_483.out _).trans (((cell_far (p := ⟨gb483, _, none⟩) NB485_483.out _).trans (((cell_far (p := ⟨gb483, _, none⟩) NB485_483.out _).trans (((cell_far (p := ⟨gb483, _, none⟩) NB485_483.out _).trans (((cell_far (p := ⟨gb483, _, none⟩) NB485_483.out _).trans (hHeld.2.2.2.2.2.1)))))))))))), ((cell_far (p := ⟨gb483, _, none⟩) NB482_483.out _).trans (((cell_far (p := ⟨gb483, _, none⟩) NB482_483.out _).trans (((cell_far (p := ⟨gb483, _, none⟩) NB482_483.out _).trans (((cell_far (p := ⟨gb483, _, none⟩) NB482_483.out _).trans (((cell_far (p := ⟨gb483, _, none⟩) NB482_483.out _).trans (((cell_far (p := ⟨gb483, _, none⟩) NB482_483.out _).trans (hHeld.2.2.2.2.2.2.1)))))))))))), ((cell_far (p := ⟨gb483, _, none⟩) NB482_483.out _).trans (((cell_far (p := ⟨gb483, _, none⟩) NB482_483.out _).trans (((cell_far (p := ⟨gb483, _, none⟩) NB482_483.out _).trans (((cell_far (p := ⟨gb483, _, none⟩) NB482_483.out _).trans (((cell_far (p := ⟨gb483, _, none⟩) NB482_483.out _).trans (((cell_far (p := ⟨gb483, _, none⟩) NB482_483.out _).trans (hHeld.2.2.2.2.2.2.2.1)))))))))))), ((cell_far (p := ⟨gb483, _, none⟩) NB482_483.out _).trans (((cell_far (p := ⟨gb483, _, none⟩) NB482_483.out _).trans (((cell_far (p := ⟨gb483, _, none⟩) NB482_483.out _).trans (((cell_far (p := ⟨gb483, _, none⟩) NB482_483.out _).trans (((cell_far (p := ⟨gb483, _, none⟩) NB482_483.out _).trans (((cell_far (p := ⟨gb483, _, none⟩) NB482_483.out _).trans (hHeld.2.2.2.2.2.2.2.2.1)))))))))))), ((cell_far (p := ⟨gb483, _, none⟩) NB482_483.out _).trans (((cell_far (p := ⟨gb483, _, none⟩) NB482_483.out _).trans (((cell_far (p := ⟨gb483, _, none⟩) NB482_483.out _).trans (((cell_far (p := ⟨gb483, _, none⟩) NB482_483.out _).trans (((cell_far (p := ⟨gb483, _, none⟩) NB482_483.out _).trans (((cell_far (p := ⟨gb483, _, none⟩) NB482_483.out _).trans (hHeld.2.2.2.2.2.2.2.2.2.1)))))))))))), ((cell_far (p := ⟨gb483, _, none⟩) NB482_483.out _).trans (((cell_far (p := ⟨gb483, _, none⟩) NB482_483.out _).trans (((cell_far (p := ⟨gb483, _, none⟩) NB482_483.out _).trans (((cell_far (p := ⟨gb483, _, none⟩) NB482_483.out _).trans (((cell_far (p := ⟨gb483, _, none⟩) NB482_483.out _).trans (((cell_far (p := ⟨gb483, _, none⟩) NB482_483.out _).trans (hHeld.2.2.2.2.2.2.2.2.2.2))))))))))))⟩ (fun hHeld => ?_)
      clear hK K
      refine pu2 12 (some 9) (bz 13 8191) ?_
      refine done_ (done_of HT_.out (by kernel_rfl)) ?_
      try go_wp2
      refine bodyPost_ret (results_ct rfl _ _ gb483 58 #[.int .i64 a2_0, .int .i64 3, .float .f64 t484, .int .i64 a1_0, .float .f64 a2_3, .int .i64 a2_4] (0, 0) _ rfl (kp BK483.out) Try.underlying58 rfl (by kernel_rfl)) rfl ?_
      exact ⟨fe, by repeat (first | (with_reducible first | exact HB.out | apply below_alloc | apply pw_below_drewN | apply below_drew1 | refine below_set ?_ GE481.out | refine below_set ?_ GE482.out | refine below_set ?_ GE483.out | refine below_set ?_ GE485.out) | exact HB.out)⟩
     ·rw [if_neg c46] at H
      have c46b0 := bf_ c46
      clear c46
      simp only [Option.some.injEq, Prod.mk.injEq] at H
      obtain ⟨rfl, rfl, rfl, rfl, rfl, rfl, rfl⟩ := H
      have hnb62 := NB482_481.out
      have hnc62 := NB481_482.out
      have hnb63 := NB482_483.out
      have hnc63 := NB483_482.out
      have hnb64 := NB482_485.out
      have hnc64 := NB485_482.out
      obtain ⟨hcz65_0, hcz65_1, hcz65_2, hcz65_3, hcz65_4, hfz65_0, hfz65_1, hfz65_2, hfz65_3, hfz65_4⟩ := cz5 BK482.out
      have hnb66 := NB485_481.out
      have hnc66 := NB481_485.out
      have hnb67 := NB485_483.out
      have hnc67 := NB483_485.out
      obtain ⟨hcz68_0, hcz68_1, hcz68_2, hcz68_3, hcz68_4, hcz68_5, hfz68_0, hfz68_1, hfz68_2, hfz68_3, hfz68_4, hfz68_5⟩ := cz6 BK485.out
      try go_wp2
      have n0_ : Aside0 ((wc.setCell ⟨gb485, 1, none⟩ (.int .i64 3)).heap[gb481]? = some (.cells #[.int .i64 a1_0, .float .f64 a1_1, .slice A1_2 l1_2.length c1_2] 54 (0, 0))) := ⟨kp1 NB481_485 BK481.out⟩
      have n1_ : Aside0 ((wc.setCell ⟨gb485, 1, none⟩ (.int .i64 3)).heap[gb482]? = some (.cells #[.int .i64 a2_0, .int .i64 a2_1, .float .f64 a2_2, .float .f64 a2_3, .int .i64 a2_4] 56 (0, 0))) := ⟨kp1 NB482_485 BK482.out⟩
      have n2_ : Aside0 ((wc.setCell ⟨gb485, 1, none⟩ (.int .i64 3)).heap[gb483]? = some (.cells #[.int .i64 0, .int .i64 0, .float .f64 0, .int .i64 0, .float .f64 0, .int .i64 0] 58 (0, 0))) := ⟨kp1 NB483_485 BK483.out⟩
      have n3_ : Aside0 ((wc.setCell ⟨gb485, 1, none⟩ (.int .i64 3)).heap[gb485]? = some (.cells #[.int .i64 a2_0, .int .i64 3, .float .f64 t484, .int .i64 a1_0, .float .f64 a2_3, .int .i64 a2_4] 58 (0, 0))) := ⟨kp BK485.out⟩
      have n4_ : Aside0 (Below w.heap.size w (wc.setCell ⟨gb485, 1, none⟩ (.int .i64 3))) := ⟨by repeat (first | (with_reducible first | exact HB.out | apply below_alloc | apply pw_below_drewN | apply below_drew1 | refine below_set ?_ GE481.out | refine below_set ?_ GE482.out | refine below_set ?_ GE483.out | refine below_set ?_ GE485.out) | exact HB.out)⟩
      (try clear BK481)
      (try clear BK482)
      (try clear BK483)
      (try clear BK485)
      (try clear HB)
      generalize (wc.setCell ⟨gb485, 1, none⟩ (.int .i64 3)) = w69 at n0_ n1_ n2_ n3_ n4_ ⊢
      have BK481 := n0_
      have BK482 := n1_
      have BK483 := n2_
      have BK485 := n3_
      have HB := n4_
      clear n0_ n1_ n2_ n3_ n4_
      have n0_ := Aside0.mk (blk_drew BK481.out)
      have n1_ := Aside0.mk (blk_drew BK482.out)
      have n2_ := Aside0.mk (blk_drew BK483.out)
      have n3_ := Aside0.mk (blk_drew BK485.out)
      have n4_ := Aside0.mk (below_drew1 HB.out)
      clear BK481
      clear BK482
      clear BK483
      clear BK485
      clear HB
      have BK481 := n0_
      have BK482 := n1_
      have BK483 := n2_
      have BK485 := n3_
      have HB := n4_
      clear n0_ n1_ n2_ n3_ n4_
      refine start_ (n := 13) (S := fun w' => w'.cell? ⟨gb485, 0, none⟩ = some (.int .i64 a2_0) ∧ w'.cell? ⟨gb485, 1, none⟩ = some (.int .i64 3) ∧ w'.cell? ⟨gb485, 2, none⟩ = some (.float .f64 t484) ∧ w'.cell? ⟨gb485, 3, none⟩ = some (.int .i64 a1_0) ∧ w'.cell? ⟨gb485, 4, none⟩ = some (.float .f64 a2_3) ∧ w'.cell? ⟨gb485, 5, none⟩ = some (.int .i64 a2_4) ∧ w'.cell? ⟨gb482, 0, none⟩ = some (.int .i64 a2_0) ∧ w'.cell? ⟨gb482, 1, none⟩ = some (.int .i64 a2_1) ∧ w'.cell? ⟨gb482, 2, none⟩ = some (.float .f64 a2_2) ∧ w'.cell? ⟨gb482, 3, none⟩ = some (.float .f64 a2_3) ∧ w'.cell? ⟨gb482, 4, none⟩ = some (.int .i64 a2_4)) (ds := []) (bz 13 0) (by kernel_rfl) rfl rfl ⟨(blk_cell BK485.out 0).trans rfl, (blk_cell BK485.out 1).trans rfl, (blk_cell BK485.out 2).trans rfl, (blk_cell BK485.out 3).trans rfl, (blk_cell BK485.out 4).trans rfl, (blk_cell BK485.out 5).trans rfl, (blk_cell BK482.out 0).trans rfl, (blk_cell BK482.out 1).trans rfl, (blk_cell BK482.out 2).trans rfl, (blk_cell BK482.out 3).trans rfl, (blk_cell BK482.out 4).trans rfl⟩ (fun hHeld => ?_); refine with_tabW scopedv_known.tab8 scopedv_known.bits8 (fun HT_ HW_ => ?_)
      generalize w69.drew = w70 at BK481 BK482 BK483 BK485 HB hHeld ⊢
      refine pu2 1 (some 46) (bz 13 2) ?_
      refine pu2 2 (some 47) (bz 13 6) ?_
      refine tk2 0 (some 45) (bz 13 7) ?_
      refine tk2 3 (some 48) (bz 13 15) ?_
      refine pu2 4 (some 49) (bz 13 31) ?_
      refine pu2 5 (some 50) (bz 13 63) ?_
      refine pz2 6 (some 51) (bz 13 127) ?_
      refine pz2 7 (some 52) (bz 13 255) ?_
      refine pz2 8 (some 53) (bz 13 511) ?_
      refine pz2 9 (some 54) (bz 13 1023) ?_
      refine pu2 10 (some 55) (bz 13 2047) ?_
      refine one_ (i := 11) (N := none) (bz 13 4095) rfl rfl (one_of HT_.out (by kernel_rfl)) (by decide) (fun K hK => ?_)
      have hs71 : w70.cell? ⟨gb483, 0, none⟩ = some (.int .i64 0) := (blk_cell BK483.out 0).trans rfl
      have hfs71 := blk_frozen BK483.out 0
      have hns71_0 := NB481_483.out
      have hns71_1 := NB482_483.out
      have hns71_3 := NB485_483.out
      have hms71_0 := NB483_481.out
      have hms71_1 := NB483_482.out
      have hms71_3 := NB483_485.out
      have hs72 : w70.cell? ⟨gb483, 1, none⟩ = some (.int .i64 0) := (blk_cell BK483.out 1).trans rfl
      have hfs72 := blk_frozen BK483.out 1
      have hns72_0 := NB481_483.out
      have hns72_1 := NB482_483.out
      have hns72_3 := NB485_483.out
      have hms72_0 := NB483_481.out
      have hms72_1 := NB483_482.out
      have hms72_3 := NB483_485.out
      have hs73 : w70.cell? ⟨gb483, 2, none⟩ = some (.float .f64 0) := (blk_cell BK483.out 2).trans rfl
      have hfs73 := blk_frozen BK483.out 2
      have hns73_0 := NB481_483.out
      have hns73_1 := NB482_483.out
      have hns73_3 := NB485_483.out
      have hms73_0 := NB483_481.out
      have hms73_1 := NB483_482.out
      have hms73_3 := NB483_485.out
      have hs74 : w70.cell? ⟨gb483, 3, none⟩ = some (.int .i64 0) := (blk_cell BK483.out 3).trans rfl
      have hfs74 := blk_frozen BK483.out 3
      have hns74_0 := NB481_483.out
      have hns74_1 := NB482_483.out
      have hns74_3 := NB485_483.out
      have hms74_0 := NB483_481.out
      have hms74_1 := NB483_482.out
      have hms74_3 := NB483_485.out
      have hs75 : w70.cell? ⟨gb483, 4, none⟩ = some (.float .f64 0) := (blk_cell BK483.out 4).trans rfl
      have hfs75 := blk_frozen BK483.out 4
      have hns75_0 := NB481_483.out
      have hns75_1 := NB482_483.out
      have hns75_3 := NB485_483.out
      have hms75_0 := NB483_481.out
      have hms75_1 := NB483_482.out
      have hms75_3 := NB483_485.out
      have hs76 : w70.cell? ⟨gb483, 5, none⟩ = some (.int .i64 0) := (blk_cell BK483.out 5).trans rfl
      have hfs76 := blk_frozen BK483.out 5
      have hns76_0 := NB481_483.out
      have hns76_1 := NB482_483.out
      have hns76_3 := NB485_483.out
      have hms76_0 := NB483_481.out
      have hms76_1 := NB483_482.out
      have hms76_3 := NB483_485.out
      refine skip_ (w1 := ?_) (by rfl) rfl ?_ ?_
      rotate_left
      ·go_simp
       rfl
      refine hK.out _ _ ⟨((cell_far (p := ⟨gb483, _, none⟩) NB485_483.out _).trans (((cell_far (p := ⟨gb483, _, none⟩) NB485_483.out _).trans (((cell_far (p := ⟨gb483, _, none⟩) NB485_483.out _).trans (((cell_far (p := ⟨gb483, _, none⟩) NB485_483.out _).trans (((cell_far (p := ⟨gb483, _, none⟩) NB485_483.out _).trans (((cell_far (p := ⟨gb483, _, none⟩) NB485_483.out _).trans (hHeld.1)))))))))))), ((cell_far (p := ⟨gb483, _, none⟩) NB485_483.out _).trans (((cell_far (p := ⟨gb483, _, none⟩) NB485_483.out _).trans (((cell_far (p := ⟨gb483, _, none⟩) NB485_483.out _).trans (((cell_far (p := ⟨gb483, _, none⟩) NB485_483.out _).trans (((cell_far (p := ⟨gb483, _, none⟩) NB485_483.out _).trans (((cell_far (p := ⟨gb483, _, none⟩) NB485_483.out _).trans (hHeld.2.1)))))))))))), ((cell_far (p := ⟨gb483, _, none⟩) NB485_483.out _).trans (((cell_far (p := ⟨gb483, _, none⟩) NB485_483.out _).trans (((cell_far (p := ⟨gb483, _, none⟩) NB485_483.out _).trans (((cell_far (p := ⟨gb483, _, none⟩) NB485_483.out _).trans (((cell_far (p := ⟨gb483, _, none⟩) NB485_483.out _).trans (((cell_far (p := ⟨gb483, _, none⟩) NB485_483.out _).trans (hHeld.2.2.1)))))))))))), ((cell_far (p := ⟨gb483, _, none⟩) NB485_483.out _).trans (((cell_far (p := ⟨gb483, _, none⟩) NB485_483.out _).trans (((cell_far (p := ⟨gb483, _, none⟩) NB485_483.out _).trans (((cell_far (p := ⟨gb483, _, none⟩) NB485_483.out _).trans (((cell_far (p := ⟨gb483, _, none⟩) NB485_483.out _).trans (((cell_far (p := ⟨gb483, _, none⟩) NB485_483.out _).trans (hHeld.2.2.2.1)))))))))))), ((cell_far (p := ⟨gb483, _, none⟩) NB485_483.out _).trans (((cell_far (p := ⟨gb483, _, none⟩) NB485_483.out _).trans (((cell_far (p := ⟨gb483, _, none⟩) NB485_483.out _).trans (((cell_far (p := ⟨gb483, _, none⟩) NB485_483.out _).trans (((cell_far (p := ⟨gb483, _, none⟩) NB485_483.out _).trans (((cell_far (p := ⟨gb483, _, none⟩) NB485_483.out _).trans (hHeld.2.2.2.2.1)))))))))))), ((cell_far (p := ⟨gb483, _, none⟩) NB485_483.out _).trans (((cell_far (p := ⟨gb483, _, none⟩) NB485_483.out _).trans (((cell_far (p := ⟨gb483, _, none⟩) NB485_483.out _).trans (((cell_far (p := ⟨gb483, _, none⟩) NB485_483.out _).trans (((cell_far (p := ⟨gb483, _, none⟩) NB485_483.out _).trans (((cell_far (p := ⟨gb483, _, none⟩) NB485_483.out _).trans (hHeld.2.2.2.2.2.1)))))))))))), ((cell_far (p := ⟨gb483, _, none⟩) NB482_483.out _).trans (((cell_far (p := ⟨gb483, _, none⟩) NB482_483.out _).trans (((cell_far (p := ⟨gb483, _, none⟩) NB482_483.out _).trans (((cell_far (p := ⟨gb483, _, none⟩) NB482_483.out _).trans (((cell_far (p := ⟨gb483, _, none⟩) NB482_483.out _).trans (((cell_far (p := ⟨gb483, _, none⟩) NB482_483.out _).trans (hHeld.2.2.2.2.2.2.1)))))))))))), ((cell_far (p := ⟨gb483, _, none⟩) NB482_483.out _).trans (((cell_far (p := ⟨gb483, _, none⟩) NB482_483.out _).trans (((cell_far (p := ⟨gb483, _, none⟩) NB482_483.out _).trans (((cell_far (p := ⟨gb483, _, none⟩) NB482_483.out _).trans (((cell_far (p := ⟨gb483, _, none⟩) NB482_483.out _).trans (((cell_far (p := ⟨gb483, _, none⟩) NB482_483.out _).trans (hHeld.2.2.2.2.2.2.2.1)))))))))))), ((cell_far (p := ⟨gb483, _, none⟩) NB482_483.out _).trans (((cell_far (p := ⟨gb483, _, none⟩) NB482_483.out _).trans (((cell_far (p := ⟨gb483, _, none⟩) NB482_483.out _).trans (((cell_far (p := ⟨gb483, _, none⟩) NB482_483.out _).trans (((cell_far (p := ⟨gb483, _, none⟩) NB482_483.out _).trans (((cell_far (p := ⟨gb483, _, none⟩) NB482_483.out _).trans (hHeld.2.2.2.2.2.2.2.2.1)))))))))))), ((cell_far (p := ⟨gb483, _, none⟩) NB482_483.out _).trans (((cell_far (p := ⟨gb483, _, none⟩) NB482_483.out _).trans (((cell_far (p := ⟨gb483, _, none⟩) NB482_483.out _).trans (((cell_far (p := ⟨gb483, _, none⟩) NB482_483.out _).trans (((cell_far (p := ⟨gb483, _, none⟩) NB482_483.out _).trans (((cell_far (p := ⟨gb483, _, none⟩) NB482_483.out _).trans (hHeld.2.2.2.2.2.2.2.2.2.1)))))))))))), ((cell_far (p := ⟨gb483, _, none⟩) NB482_483.out _).trans (((cell_far (p := ⟨gb483, _, none⟩) NB482_483.out _).trans (((cell_far (p := ⟨gb483, _, none⟩) NB482_483.out _).trans (((cell_far (p := ⟨gb483, _, none⟩) NB482_483.out _).trans (((cell_far (p := ⟨gb483, _, none⟩) NB482_483.out _).trans (((cell_far (p := ⟨gb483, _, none⟩) NB482_483.out _).trans (hHeld.2.2.2.2.2.2.2.2.2.2))))))))))))⟩ (fun hHeld => ?_)
      clear hK K
      refine pu2 12 (some 9) (bz 13 8191) ?_
      refine done_ (done_of HT_.out (by kernel_rfl)) ?_
      try go_wp2
      refine bodyPost_ret (results_ct rfl _ _ gb483 58 #[.int .i64 a2_0, .int .i64 3, .float .f64 t484, .int .i64 a1_0, .float .f64 a2_3, .int .i64 a2_4] (0, 0) _ rfl (kp BK483.out) Try.underlying58 rfl (by kernel_rfl)) rfl ?_
      exact ⟨fe, by repeat (first | (with_reducible first | exact HB.out | apply below_alloc | apply pw_below_drewN | apply below_drew1 | refine below_set ?_ GE481.out | refine below_set ?_ GE482.out | refine below_set ?_ GE483.out | refine below_set ?_ GE485.out) | exact HB.out)⟩

end Go.Proofs.Ytjkhckbfkinheaa.GAa
