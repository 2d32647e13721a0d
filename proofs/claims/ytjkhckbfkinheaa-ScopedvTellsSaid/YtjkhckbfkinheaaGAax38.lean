-- written by a program of this session (wip/pp): see NOTES.md
import Derived.Test.YtjkhckbfkinheaaGAax0
namespace Go.Proofs.Ytjkhckbfkinheaa.GAa
open Go.RowKit Go.Proofs.YtjkhckbfkinheaaW.PrintWords Go.Proofs.YtjkhckbfkinheaaW.PrintLast Go.Proofs.YtjkhckbfkinheaaW.PrintMore
attribute [local go_sem] max2_int min2_int max_two min_two max_three min_three max_four min_four   -- for this text's walks alone
attribute [local go_sem high] binOp_flss binOp_fgtr binOp_fleq binOp_fgeq binOp_feql binOp_fneq run_fadd run_fsub run_fmul run_fquo unary_fneg run_ftoint run_fofint run_feqIn ext_bits ext_frombits ext_trunc
set_option linter.unusedVariables false
set_option linter.unusedSimpArgs false

/-! ### scopedv_order: function 35 -/
def scopedv_order.f (a0_0 : Int) (a0_1 : Int) (a0_2 : Nat) (a0_3 : Int) (a0_4 : Nat) (a0_5 : Int) (a1_0 : Int) (a1_1 : Int) (a1_2 : Nat) (a1_3 : Int) (a1_4 : Nat) (a1_5 : Int) : Option (Int) := if a0_1 = a1_1 then (some (wrap64 (a0_0 - a1_0))) else (some (wrap64 (a0_1 - a1_1)))
set_option maxHeartbeats 8000000 in
set_option maxRecDepth 100000 in
theorem scopedv_order.calls (a0_0 : Int) (a0_1 : Int) (a0_2 : Nat) (a0_3 : Int) (a0_4 : Nat) (a0_5 : Int) (a1_0 : Int) (a1_1 : Int) (a1_2 : Nat) (a1_3 : Int) (a1_4 : Nat) (a1_5 : Int) (r : Int) (w : World) (h : scopedv_order.f a0_0 a0_1 a0_2 a0_3 a0_4 a0_5 a1_0 a1_1 a1_2 a1_3 a1_4 a1_5 = some r) :
  Calls Try.prog 35 #[.agg #[.int .i64 a0_0, .int .i64 a0_1, .float .f64 a0_2, .int .i64 a0_3, .float .f64 a0_4, .int .i64 a0_5], .agg #[.int .i64 a1_0, .int .i64 a1_1, .float .f64 a1_2, .int .i64 a1_3, .float .f64 a1_4, .int .i64 a1_5]] w fun e w' => e = .returned (.int .i64 r) ∧ Below w.heap.size w w' := by
 have hu58 := Try.underlying58
 have HB := Aside0.mk (Below.refl w.heap.size w)
 have H : (if a0_1 = a1_1 then (some (wrap64 (a0_0 - a1_0))) else (some (wrap64 (a0_1 - a1_1)))) = some r := h
 clear h
 by_cases c3 : a0_1 = a1_1
 ·rw [if_pos c3] at H
  have c3b0 := be_ c3
  have c3b1 := bg_ c3
  clear c3
  obtain rfl := oj_ H
  go_enter Try.func35, Try.ntmps35
  go_wp2_with (first | ((with_reducible refine gate_dst (N := 2) rfl ?_); refine bx_ (N := 2) #[.int .i64 a0_0, .int .i64 a0_1, .float .f64 a0_2, .int .i64 a0_3, .float .f64 a0_4, .int .i64 a0_5] 58 ⟨fb⟩ ?_; clear HB; intro gb487 w4 HB BK487 GE487; have GW487 := GE487) | ((with_reducible refine gate_dst (N := 3) rfl ?_); refine bz_ (N := 3) #[.int .i64 a1_0, .int .i64 a1_1, .float .f64 a1_2, .int .i64 a1_3, .float .f64 a1_4, .int .i64 a1_5] 58 ?_; intro gb488 hg w5 hbox hb; have n0_ := Aside0.mk (blk_below (g := gb487) (o := .cells #[.int .i64 a0_0, .int .i64 a0_1, .float .f64 a0_2, .int .i64 a0_3, .float .f64 a0_4, .int .i64 a0_5] 58 (0, 0)) (kp BK487.out) hb); have n1_ := Aside0.mk (below_step (fb1 GE487) hb); have n2_ := Aside0.mk (hbox); have n3_ := Aside0.mk ((by rw [hg]; exact (below_size (fb1 GE487)) : w.heap.size ≤ gb488)); have n4_ := Aside0.mk ((by rw [hg]; exact (below_size (fb1 GE487)) : w.heap.size ≤ gb488)); have n5_ := Aside0.mk ((by rw [hg]; exact Nat.ne_of_lt (blk_lt (g := gb487) (o := .cells #[.int .i64 a0_0, .int .i64 a0_1, .float .f64 a0_2, .int .i64 a0_3, .float .f64 a0_4, .int .i64 a0_5] 58 (0, 0)) (kp BK487.out)) : gb487 ≠ gb488)); have n6_ := Aside0.mk ((by rw [hg]; exact Nat.ne_of_gt (blk_lt (g := gb487) (o := .cells #[.int .i64 a0_0, .int .i64 a0_1, .float .f64 a0_2, .int .i64 a0_3, .float .f64 a0_4, .int .i64 a0_5] 58 (0, 0)) (kp BK487.out)) : gb488 ≠ gb487)); clear BK487; clear HB; have BK487 := n0_; have HB := n1_; have BK488 := n2_; have GW488 := n3_; have GE488 := n4_; have NB487_488 := n5_; have NB488_487 := n6_; clear n0_ n1_ n2_ n3_ n4_ n5_ n6_; clear hb hbox hg; have hnb6 := NB487_488.out; have hnc6 := NB488_487.out; obtain ⟨hcz7_0, hcz7_1, hcz7_2, hcz7_3, hcz7_4, hcz7_5, hfz7_0, hfz7_1, hfz7_2, hfz7_3, hfz7_4, hfz7_5⟩ := cz6 BK487.out; obtain ⟨hcz8_0, hcz8_1, hcz8_2, hcz8_3, hcz8_4, hcz8_5, hfz8_0, hfz8_1, hfz8_2, hfz8_3, hfz8_4, hfz8_5⟩ := cz6 BK488.out))
  go_ret
  exact ⟨fe, fb2 GE487 GE488⟩
 ·rw [if_neg c3] at H
  have c3b0 := bh_ c3
  have c3b1 := bi_ c3
  obtain rfl := oj_ H
  go_enter Try.func35, Try.ntmps35
  go_wp2_with (first | ((with_reducible refine gate_dst (N := 2) rfl ?_); refine bx_ (N := 2) #[.int .i64 a0_0, .int .i64 a0_1, .float .f64 a0_2, .int .i64 a0_3, .float .f64 a0_4, .int .i64 a0_5] 58 ⟨fb⟩ ?_; clear HB; intro gb487 w9 HB BK487 GE487; have GW487 := GE487) | ((with_reducible refine gate_dst (N := 3) rfl ?_); refine bz_ (N := 3) #[.int .i64 a1_0, .int .i64 a1_1, .float .f64 a1_2, .int .i64 a1_3, .float .f64 a1_4, .int .i64 a1_5] 58 ?_; intro gb488 hg w10 hbox hb; have n0_ := Aside0.mk (blk_below (g := gb487) (o := .cells #[.int .i64 a0_0, .int .i64 a0_1, .float .f64 a0_2, .int .i64 a0_3, .float .f64 a0_4, .int .i64 a0_5] 58 (0, 0)) (kp BK487.out) hb); have n1_ := Aside0.mk (below_step (fb1 GE487) hb); have n2_ := Aside0.mk (hbox); have n3_ := Aside0.mk ((by rw [hg]; exact (below_size (fb1 GE487)) : w.heap.size ≤ gb488)); have n4_ := Aside0.mk ((by rw [hg]; exact (below_size (fb1 GE487)) : w.heap.size ≤ gb488)); have n5_ := Aside0.mk ((by rw [hg]; exact Nat.ne_of_lt (blk_lt (g := gb487) (o := .cells #[.int .i64 a0_0, .int .i64 a0_1, .float .f64 a0_2, .int .i64 a0_3, .float .f64 a0_4, .int .i64 a0_5] 58 (0, 0)) (kp BK487.out)) : gb487 ≠ gb488)); have n6_ := Aside0.mk ((by rw [hg]; exact Nat.ne_of_gt (blk_lt (g := gb487) (o := .cells #[.int .i64 a0_0, .int .i64 a0_1, .float .f64 a0_2, .int .i64 a0_3, .float .f64 a0_4, .int .i64 a0_5] 58 (0, 0)) (kp BK487.out)) : gb488 ≠ gb487)); clear BK487; clear HB; have BK487 := n0_; have HB := n1_; have BK488 := n2_; have GW488 := n3_; have GE488 := n4_; have NB487_488 := n5_; have NB488_487 := n6_; clear n0_ n1_ n2_ n3_ n4_ n5_ n6_; clear hb hbox hg; have hnb11 := NB487_488.out; have hnc11 := NB488_487.out; obtain ⟨hcz12_0, hcz12_1, hcz12_2, hcz12_3, hcz12_4, hcz12_5, hfz12_0, hfz12_1, hfz12_2, hfz12_3, hfz12_4, hfz12_5⟩ := cz6 BK487.out; obtain ⟨hcz13_0, hcz13_1, hcz13_2, hcz13_3, hcz13_4, hcz13_5, hfz13_0, hfz13_1, hfz13_2, hfz13_3, hfz13_4, hfz13_5⟩ := cz6 BK488.out))
  go_ret
  exact ⟨fe, fb2 GE487 GE488⟩

end Go.Proofs.Ytjkhckbfkinheaa.GAa
