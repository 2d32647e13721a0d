-- written by a program of this session (wip/pp): see NOTES.md
import Derived.Test.YtjkhckbfkinheaaGAax0
import Derived.Test.YtjkhckbfkinheaaGAax10
import Derived.Test.YtjkhckbfkinheaaGAax19
namespace Go.Proofs.Ytjkhckbfkinheaa.GAa
open Go.RowKit Go.Proofs.YtjkhckbfkinheaaW.PrintWords Go.Proofs.YtjkhckbfkinheaaW.PrintLast Go.Proofs.YtjkhckbfkinheaaW.PrintMore
attribute [local go_sem] max2_int min2_int max_two min_two max_three min_three max_four min_four   -- for this text's walks alone
attribute [local go_sem high] binOp_flss binOp_fgtr binOp_fleq binOp_fgeq binOp_feql binOp_fneq run_fadd run_fsub run_fmul run_fquo unary_fneg run_ftoint run_fofint run_feqIn ext_bits ext_frombits ext_trunc
set_option linter.unusedVariables false
set_option linter.unusedSimpArgs false

/-! ### beaconref15_Home: function 28 -/
def beaconref15_Home.l0 : Nat → List (S58) → Int → Int → Int → Nat → Option (Int × Int × Nat × Int)
 | 0, _, _, _, _, _ => none
 | k + 1, x2, x10, x246000, x246001, x246002 => if x10 < (x2.length : Int) then (if 0 ≤ x10 then (if (fLt ((rd_T58 x2 x10).f2) x246002) = true then (beaconref15_Home.l0 k x2 (wrap64 (x10 + 1)) x246000 ((rd_T58 x2 x10).f0) ((rd_T58 x2 x10).f2)) else (beaconref15_Home.l0 k x2 (wrap64 (x10 + 1)) x246000 x246001 x246002)) else (none)) else (some (x246000, x246001, x246002, 0))
def beaconref15_Home.f (k : Nat) (a0 : Int) (a1 : Bool) (l2 : List (S58)) : Option (Int × Int × Nat × Int) := (beaconref15_may.f k a0 l2).bind fun t243 => (if t243 = 0 then (if a1 = true then (some (a0, a0, 0, 0)) else ((math_Inf.f k 1).bind fun t244 => (beaconref15_Home.l0 k l2 0 a0 0 t244))) else (some (0, 0, 0, t243)))
set_option maxHeartbeats 8000000 in
set_option maxRecDepth 100000 in
theorem beaconref15_Home.calls (k : Nat) (a0 : Int) (a1 : Bool) (A2 : Option Addr) (c2 : Nat) (l2 : List (S58)) (r1 : Int) (r2 : Int) (r3 : Nat) (r4 : Int) (w : World) (hr2 : Kd.C k58 w A2 l2.length l2) (hc2 : l2.length ≤ c2) (h : beaconref15_Home.f k a0 a1 l2 = some (r1, r2, r3, r4)) :
  Calls Try.prog 28 #[.int .i64 a0, .bool a1, .slice A2 l2.length c2] w fun e w' => e = .returned (.tuple #[.agg #[.int .i64 r1, .int .i64 r2, .float .f64 r3], .int .i64 r4]) ∧ Below w.heap.size w w' := by
 have hu34 := Try.underlying34
 have HR2 := Aside0.mk hr2
 have HC2 := Aside0.mk hc2
 clear hr2 hc2
 have HB := Aside0.mk (Below.refl w.heap.size w)
 have H : ((beaconref15_may.f k a0 l2).bind fun t243 => (if t243 = 0 then (if a1 = true then (some (a0, a0, 0, 0)) else ((math_Inf.f k 1).bind fun t244 => (beaconref15_Home.l0 k l2 0 a0 0 t244))) else (some (0, 0, 0, t243)))) = some (r1, r2, r3, r4) := h
 clear h
 replace H := bs_ H; obtain ⟨t243, A4, H⟩ := H
 by_cases c5 : t243 = 0
 ·rw [if_pos c5] at H
  have c5b0 := be_ c5
  have c5b1 := bg_ c5
  clear c5
  by_cases c6 : a1 = true
  ·subst c6
   have H1 : (some (a0, a0, 0, 0)) = some (r1, r2, r3, r4) := by rw [if_pos rfl] at H; exact H
   clear H
   have H := H1
   clear H1
   simp only [Option.some.injEq, Prod.mk.injEq] at H
   obtain ⟨rfl, rfl, rfl, rfl⟩ := H
   go_enter Try.func28, Try.ntmps28
   go_wp2_with (first | ((with_reducible refine gate_dst (N := 6) rfl ?_); refine bx_ (N := 6) #[.int .i64 0, .int .i64 0, .float .f64 0] 34 ⟨fb⟩ ?_; clear HB; intro gb242 w7 HB BK242 GE242; have GW242 := GE242) | (go_at_call 65; (with_reducible refine (beaconref15_may.calls k a0 _ _ l2 t243 _ ?side1 ?side2 A4.out).mono ?_); (case side1 => repeat (first | exact (Kd.C_below HR2.out HB.out) | (with_reducible refine Kd.C_alloc ?_ _) | (with_reducible refine Kd.C_drewN ?_ _) | (with_reducible refine Kd.C_drew ?_))); (case side2 => exact HC2.out); rintro e w8 ⟨rfl, hb⟩; have n0_ := Aside0.mk (blk_below (g := gb242) (o := .cells #[.int .i64 0, .int .i64 0, .float .f64 0] 34 (0, 0)) (kp BK242.out) hb); have n1_ := Aside0.mk (below_step (fb1 GE242) hb); clear BK242; clear HB; have BK242 := n0_; have HB := n1_; clear n0_ n1_; (try clear hb); obtain ⟨hcz9_0, hcz9_1, hcz9_2, hfz9_0, hfz9_1, hfz9_2⟩ := cz3 BK242.out))
   repeat (go_quiet (first | ((with_reducible refine gate_dst (N := 6) rfl ?_); refine bx_ (N := 6) #[.int .i64 0, .int .i64 0, .float .f64 0] 34 ⟨fb⟩ ?_; clear HB; intro gb242 w7 HB BK242 GE242; have GW242 := GE242) | (go_at_call 65; (with_reducible refine (beaconref15_may.calls k a0 _ _ l2 t243 _ ?side1 ?side2 A4.out).mono ?_); (case side1 => repeat (first | exact (Kd.C_below HR2.out HB.out) | (with_reducible refine Kd.C_alloc ?_ _) | (with_reducible refine Kd.C_drewN ?_ _) | (with_reducible refine Kd.C_drew ?_))); (case side2 => exact HC2.out); rintro e w8 ⟨rfl, hb⟩; have n0_ := Aside0.mk (blk_below (g := gb242) (o := .cells #[.int .i64 0, .int .i64 0, .float .f64 0] 34 (0, 0)) (kp BK242.out) hb); have n1_ := Aside0.mk (below_step (fb1 GE242) hb); clear BK242; clear HB; have BK242 := n0_; have HB := n1_; clear n0_ n1_; (try clear hb); obtain ⟨hcz9_0, hcz9_1, hcz9_2, hfz9_0, hfz9_1, hfz9_2⟩ := cz3 BK242.out)); try go_wp2_with (first | ((with_reducible refine gate_dst (N := 6) rfl ?_); refine bx_ (N := 6) #[.int .i64 0, .int .i64 0, .float .f64 0] 34 ⟨fb⟩ ?_; clear HB; intro gb242 w7 HB BK242 GE242; have GW242 := GE242) | (go_at_call 65; (with_reducible refine (beaconref15_may.calls k a0 _ _ l2 t243 _ ?side1 ?side2 A4.out).mono ?_); (case side1 => repeat (first | exact (Kd.C_below HR2.out HB.out) | (with_reducible refine Kd.C_alloc ?_ _) | (with_reducible refine Kd.C_drewN ?_ _) | (with_reducible refine Kd.C_drew ?_))); (case side2 => exact HC2.out); rintro e w8 ⟨rfl, hb⟩; have n0_ := Aside0.mk (blk_below (g := gb242) (o := .cells #[.int .i64 0, .int .i64 0, .float .f64 0] 34 (0, 0)) (kp BK242.out) hb); have n1_ := Aside0.mk (below_step (fb1 GE242) hb); clear BK242; clear HB; have BK242 := n0_; have HB := n1_; clear n0_ n1_; (try clear hb); obtain ⟨hcz9_0, hcz9_1, hcz9_2, hfz9_0, hfz9_1, hfz9_2⟩ := cz3 BK242.out)))
   refine bodyPost_ret (results_ct rfl _ _ gb242 34 #[.int .i64 a0, .int .i64 a0, .float .f64 0] (0, 0) _ rfl (kp BK242.out) Try.underlying34 rfl (by kernel_rfl)) rfl ?_
   exact ⟨fe, fb1 GE242⟩
  ·obtain rfl := bf_ c6
   have H1 : ((math_Inf.f k 1).bind fun t244 => (beaconref15_Home.l0 k l2 0 a0 0 t244)) = some (r1, r2, r3, r4) := by rw [if_neg (show ¬ (false = true) by decide)] at H; exact H
   clear H
   have H := H1
   clear H1
   replace H := bs_ H; obtain ⟨t244, A10, H⟩ := H
   have H' := Aside0.mk H
   clear H
   go_enter Try.func28, Try.ntmps28
   go_wp2_with (first | ((with_reducible refine gate_dst (N := 6) rfl ?_); refine bx_ (N := 6) #[.int .i64 0, .int .i64 0, .float .f64 0] 34 ⟨fb⟩ ?_; clear HB; intro gb242 w11 HB BK242 GE242; have GW242 := GE242) | (go_at_call 65; (with_reducible refine (beaconref15_may.calls k a0 _ _ l2 t243 _ ?side1 ?side2 A4.out).mono ?_); (case side1 => repeat (first | exact (Kd.C_below HR2.out HB.out) | (with_reducible refine Kd.C_alloc ?_ _) | (with_reducible refine Kd.C_drewN ?_ _) | (with_reducible refine Kd.C_drew ?_))); (case side2 => exact HC2.out); rintro e w12 ⟨rfl, hb⟩; have n0_ := Aside0.mk (blk_below (g := gb242) (o := .cells #[.int .i64 0, .int .i64 0, .float .f64 0] 34 (0, 0)) (kp BK242.out) hb); have n1_ := Aside0.mk (below_step (fb1 GE242) hb); clear BK242; clear HB; have BK242 := n0_; have HB := n1_; clear n0_ n1_; (try clear hb)) | (go_at_call 40; (with_reducible refine (math_Inf.calls k 1 t244 _ A10.out).mono ?_); rintro e w' ⟨rfl, ⟨nd, rfl⟩⟩; (try first | exact ⟨rfl, _, World.drewN_drewN _ _ _⟩ | exact ⟨rfl, _, Eq.trans (World.drewN_drewN _ _ _) (congrArg (World.drewN _) (Nat.add_assoc _ _ _))⟩)) | ((with_reducible refine gate_dst (N := 9) rfl ?_); refine bz_ (N := 9) #[.int .i64 0, .int .i64 0, .float .f64 0] 34 ?_; intro gb245 hg w13 hbox hb; have n0_ := Aside0.mk (blk_below (g := gb242) (o := .cells #[.int .i64 0, .int .i64 0, .float .f64 0] 34 (0, 0)) (kp BK242.out) hb); have n1_ := Aside0.mk (below_step (fb1 GE242) hb); have n2_ := Aside0.mk (hbox); have n3_ := Aside0.mk ((by rw [hg]; exact (below_size (fb1 GE242)) : w.heap.size ≤ gb245)); have n4_ := Aside0.mk ((by rw [hg]; exact (below_size (fb1 GE242)) : w.heap.size ≤ gb245)); have n5_ := Aside0.mk ((by rw [hg]; exact Nat.ne_of_lt (blk_lt (g := gb242) (o := .cells #[.int .i64 0, .int .i64 0, .float .f64 0] 34 (0, 0)) (kp BK242.out)) : gb242 ≠ gb245)); have n6_ := Aside0.mk ((by rw [hg]; exact Nat.ne_of_gt (blk_lt (g := gb242) (o := .cells #[.int .i64 0, .int .i64 0, .float .f64 0] 34 (0, 0)) (kp BK242.out)) : gb245 ≠ gb242)); clear BK242; clear HB; have BK242 := n0_; have HB := n1_; have BK245 := n2_; have GW245 := n3_; have GE245 := n4_; have NB242_245 := n5_; have NB245_242 := n6_; clear n0_ n1_ n2_ n3_ n4_ n5_ n6_; clear hb hbox hg; have hnb14 := NB245_242.out; have hnc14 := NB242_245.out; obtain ⟨hcz15_0, hcz15_1, hcz15_2, hfz15_0, hfz15_1, hfz15_2⟩ := cz3 BK245.out))
   repeat (go_quiet (first | ((with_reducible refine gate_dst (N := 6) rfl ?_); refine bx_ (N := 6) #[.int .i64 0, .int .i64 0, .float .f64 0] 34 ⟨fb⟩ ?_; clear HB; intro gb242 w11 HB BK242 GE242; have GW242 := GE242) | (go_at_call 65; (with_reducible refine (beaconref15_may.calls k a0 _ _ l2 t243 _ ?side1 ?side2 A4.out).mono ?_); (case side1 => repeat (first | exact (Kd.C_below HR2.out HB.out) | (with_reducible refine Kd.C_alloc ?_ _) | (with_reducible refine Kd.C_drewN ?_ _) | (with_reducible refine Kd.C_drew ?_))); (case side2 => exact HC2.out); rintro e w12 ⟨rfl, hb⟩; have n0_ := Aside0.mk (blk_below (g := gb242) (o := .cells #[.int .i64 0, .int .i64 0, .float .f64 0] 34 (0, 0)) (kp BK242.out) hb); have n1_ := Aside0.mk (below_step (fb1 GE242) hb); clear BK242; clear HB; have BK242 := n0_; have HB := n1_; clear n0_ n1_; (try clear hb)) | (go_at_call 40; (with_reducible refine (math_Inf.calls k 1 t244 _ A10.out).mono ?_); rintro e w' ⟨rfl, ⟨nd, rfl⟩⟩; (try first | exact ⟨rfl, _, World.drewN_drewN _ _ _⟩ | exact ⟨rfl, _, Eq.trans (World.drewN_drewN _ _ _) (congrArg (World.drewN _) (Nat.add_assoc _ _ _))⟩)) | ((with_reducible refine gate_dst (N := 9) rfl ?_); refine bz_ (N := 9) #[.int .i64 0, .int .i64 0, .float .f64 0] 34 ?_; intro gb245 hg w13 hbox hb; have n0_ := Aside0.mk (blk_below (g := gb242) (o := .cells #[.int .i64 0, .int .i64 0, .float .f64 0] 34 (0, 0)) (kp BK242.out) hb); have n1_ := Aside0.mk (below_step (fb1 GE242) hb); have n2_ := Aside0.mk (hbox); have n3_ := Aside0.mk ((by rw [hg]; exact (below_size (fb1 GE242)) : w.heap.size ≤ gb245)); have n4_ := Aside0.mk ((by rw [hg]; exact (below_size (fb1 GE242)) : w.heap.size ≤ gb245)); have n5_ := Aside0.mk ((by rw [hg]; exact Nat.ne_of_lt (blk_lt (g := gb242) (o := .cells #[.int .i64 0, .int .i64 0, .float .f64 0] 34 (0, 0)) (kp BK242.out)) : gb242 ≠ gb245)); have n6_ := Aside0.mk ((by rw [hg]; exact Nat.ne_of_gt (blk_lt (g := gb242) (o := .cells #[.int .i64 0, .int .i64 0, .float .f64 0] 34 (0, 0)) (kp BK242.out)) : gb245 ≠ gb242)); clear BK242; clear HB; have BK242 := n0_; have HB := n1_; have BK245 := n2_; have GW245 := n3_; have GE245 := n4_; have NB242_245 := n5_; have NB245_242 := n6_; clear n0_ n1_ n2_ n3_ n4_ n5_ n6_; clear hb hbox hg; have hnb14 := NB245_242.out; have hnc14 := NB242_245.out; obtain ⟨hcz15_0, hcz15_1, hcz15_2, hfz15_0, hfz15_1, hfz15_2⟩ := cz3 BK245.out)); try go_wp2_with (first | ((with_reducible refine gate_dst (N := 6) rfl ?_); refine bx_ (N := 6) #[.int .i64 0, .int .i64 0, .float .f64 0] 34 ⟨fb⟩ ?_; clear HB; intro gb242 w11 HB BK242 GE242; have GW242 := GE242) | (go_at_call 65; (with_reducible refine (beaconref15_may.calls k a0 _ _ l2 t243 _ ?side1 ?side2 A4.out).mono ?_); (case side1 => repeat (first | exact (Kd.C_below HR2.out HB.out) | (with_reducible refine Kd.C_alloc ?_ _) | (with_reducible refine Kd.C_drewN ?_ _) | (with_reducible refine Kd.C_drew ?_))); (case side2 => exact HC2.out); rintro e w12 ⟨rfl, hb⟩; have n0_ := Aside0.mk (blk_below (g := gb242) (o := .cells #[.int .i64 0, .int .i64 0, .float .f64 0] 34 (0, 0)) (kp BK242.out) hb); have n1_ := Aside0.mk (below_step (fb1 GE242) hb); clear BK242; clear HB; have BK242 := n0_; have HB := n1_; clear n0_ n1_; (try clear hb)) | (go_at_call 40; (with_reducible refine (math_Inf.calls k 1 t244 _ A10.out).mono ?_); rintro e w' ⟨rfl, ⟨nd, rfl⟩⟩; (try first | exact ⟨rfl, _, World.drewN_drewN _ _ _⟩ | exact ⟨rfl, _, Eq.trans (World.drewN_drewN _ _ _) (congrArg (World.drewN _) (Nat.add_assoc _ _ _))⟩)) | ((with_reducible refine gate_dst (N := 9) rfl ?_); refine bz_ (N := 9) #[.int .i64 0, .int .i64 0, .float .f64 0] 34 ?_; intro gb245 hg w13 hbox hb; have n0_ := Aside0.mk (blk_below (g := gb242) (o := .cells #[.int .i64 0, .int .i64 0, .float .f64 0] 34 (0, 0)) (kp BK242.out) hb); have n1_ := Aside0.mk (below_step (fb1 GE242) hb); have n2_ := Aside0.mk (hbox); have n3_ := Aside0.mk ((by rw [hg]; exact (below_size (fb1 GE242)) : w.heap.size ≤ gb245)); have n4_ := Aside0.mk ((by rw [hg]; exact (below_size (fb1 GE242)) : w.heap.size ≤ gb245)); have n5_ := Aside0.mk ((by rw [hg]; exact Nat.ne_of_lt (blk_lt (g := gb242) (o := .cells #[.int .i64 0, .int .i64 0, .float .f64 0] 34 (0, 0)) (kp BK242.out)) : gb242 ≠ gb245)); have n6_ := Aside0.mk ((by rw [hg]; exact Nat.ne_of_gt (blk_lt (g := gb242) (o := .cells #[.int .i64 0, .int .i64 0, .float .f64 0] 34 (0, 0)) (kp BK242.out)) : gb245 ≠ gb242)); clear BK242; clear HB; have BK242 := n0_; have HB := n1_; have BK245 := n2_; have GW245 := n3_; have GE245 := n4_; have NB242_245 := n5_; have NB245_242 := n6_; clear n0_ n1_ n2_ n3_ n4_ n5_ n6_; clear hb hbox hg; have hnb14 := NB245_242.out; have hnc14 := NB242_245.out; obtain ⟨hcz15_0, hcz15_1, hcz15_2, hfz15_0, hfz15_1, hfz15_2⟩ := cz3 BK245.out)))
   go_loopg [10] k (fun kq v10 w' => ∃ (x10_1 : Int) (x246001_1 : Int) (x246002_1 : Nat), v10 = .int .i64 x10_1 ∧ Aside0 (beaconref15_Home.l0 kq l2 x10_1 a0 x246001_1 x246002_1 = some (r1, r2, r3, r4)) ∧ Aside0 (kq ≤ k) ∧ Aside0 (w'.heap[gb242]? = some (.cells #[.int .i64 0, .int .i64 0, .float .f64 0] 34 (0, 0))) ∧ Aside0 (w'.heap[gb245]? = some (.cells #[.int .i64 a0, .int .i64 x246001_1, .float .f64 x246002_1] 34 (0, 0))) ∧ Aside0 (Below w.heap.size w w'))
   case atStart => exact ⟨(0), (0), (t244), fz, H', ⟨Nat.le_refl _⟩, ⟨kp1 NB242_245 BK242.out⟩, ⟨kp BK245.out⟩, ⟨fb2 GE242 GE245⟩⟩
   case round =>
    clear H'
    (try clear c2); (try clear c5); (try clear c5b0); (try clear c5b1); (try clear c6); (try clear hcz15_0); (try clear hcz15_1); (try clear hcz15_2); (try clear hfz15_0); (try clear hfz15_1); (try clear hfz15_2)
    obtain ⟨x10_1, x246001_1, x246002_1, rfl, HA, HK1, BK242, BK245, HB⟩ := hrel
    cases gk with
    | zero => exact absurd HA.out (by simp [beaconref15_Home.l0])
    | succ k1 =>
     have H := HA.out
     clear HA
     simp only [beaconref15_Home.l0] at H
     by_cases c16 : x10_1 < (l2.length : Int)
     ·rw [if_pos c16] at H
      have c16b0 := decide_eq_true c16
      clear c16
      by_cases c17 : 0 ≤ x10_1
      ·rw [if_pos c17] at H
       have c17b0 := decide_eq_true c17
       clear c17
       by_cases c18 : (fLt ((rd_T58 l2 x10_1).f2) x246002_1) = true
       ·rw [if_pos c18] at H
        have c18b0 : (fLt ((rd_T58 l2 x10_1).f2) x246002_1) = true := c18
        clear c18
        have H' := Aside0.mk H
        clear H
        have p246 : 0 ≤ (x10_1 : Int) := of_decide_eq_true (by first | (with_reducible assumption) | assumption)
        have q246 : x10_1 < (l2.length : Int) := of_decide_eq_true (by first | (with_reducible assumption) | assumption)
        obtain ⟨ad246, e246, hx246_0, hx246_1, hx246_2, hx246_3, hx246_4, hx246_5⟩ := at_T58 HR2.out x10_1 p246 q246
        cases e246
        replace hx246_0 := pw_cell_below HB.out hx246_0
        replace hx246_1 := pw_cell_below HB.out hx246_1
        replace hx246_2 := pw_cell_below HB.out hx246_2
        replace hx246_3 := pw_cell_below HB.out hx246_3
        replace hx246_4 := pw_cell_below HB.out hx246_4
        replace hx246_5 := pw_cell_below HB.out hx246_5
        replace p246 := eq_true p246
        replace q246 := eq_true q246
        have hnb19 := NB245_242.out
        have hnc19 := NB242_245.out
        obtain ⟨hcz20_0, hcz20_1, hcz20_2, hfz20_0, hfz20_1, hfz20_2⟩ := cz3 BK245.out
        have p247 : 0 ≤ (x10_1 : Int) := of_decide_eq_true (by first | (with_reducible assumption) | assumption)
        have q247 : x10_1 < (l2.length : Int) := of_decide_eq_true (by first | (with_reducible assumption) | assumption)
        obtain ⟨ad247, e247, hx247_0, hx247_1, hx247_2, hx247_3, hx247_4, hx247_5⟩ := at_T58 HR2.out x10_1 p247 q247
        obtain rfl : ad246 = ad247 := (by injection e247)
        replace hx247_0 := pw_cell_below HB.out hx247_0
        replace hx247_1 := pw_cell_below HB.out hx247_1
        replace hx247_2 := pw_cell_below HB.out hx247_2
        replace hx247_3 := pw_cell_below HB.out hx247_3
        replace hx247_4 := pw_cell_below HB.out hx247_4
        replace hx247_5 := pw_cell_below HB.out hx247_5
        replace p247 := eq_true p247
        replace q247 := eq_true q247
        have p248 : 0 ≤ (x10_1 : Int) := of_decide_eq_true (by first | (with_reducible assumption) | assumption)
        have q248 : x10_1 < (l2.length : Int) := of_decide_eq_true (by first | (with_reducible assumption) | assumption)
        obtain ⟨ad248, e248, hx248_0, hx248_1, hx248_2, hx248_3, hx248_4, hx248_5⟩ := at_T58 HR2.out x10_1 p248 q248
        obtain rfl : ad246 = ad248 := (by injection e248)
        have hn248_0 : ad246.block ≠ gb245 := Nat.ne_of_lt (Nat.lt_of_lt_of_le (by have := World.block_lt_of_cell? _ _ hx248_0; first | rwa [add_block] at this | exact this) GW245.out)
        replace hx248_0 := pw_cell_below HB.out hx248_0
        replace hx248_1 := pw_cell_below HB.out hx248_1
        replace hx248_2 := pw_cell_below HB.out hx248_2
        replace hx248_3 := pw_cell_below HB.out hx248_3
        replace hx248_4 := pw_cell_below HB.out hx248_4
        replace hx248_5 := pw_cell_below HB.out hx248_5
        replace hx248_0 := (cell_far (p := ⟨gb245, 2, none⟩) (by first | (rw [add_block]; exact hn248_0) | (show (Addr.add _ _).block ≠ _; rw [add_block]; exact hn248_0) | exact hn248_0) (.float .f64 ((rd_T58 l2 x10_1).f2))).trans hx248_0
        replace hx248_1 := (cell_far (p := ⟨gb245, 2, none⟩) (by first | (rw [add_block]; exact hn248_0) | (show (Addr.add _ _).block ≠ _; rw [add_block]; exact hn248_0) | exact hn248_0) (.float .f64 ((rd_T58 l2 x10_1).f2))).trans hx248_1
        replace hx248_2 := (cell_far (p := ⟨gb245, 2, none⟩) (by first | (rw [add_block]; exact hn248_0) | (show (Addr.add _ _).block ≠ _; rw [add_block]; exact hn248_0) | exact hn248_0) (.float .f64 ((rd_T58 l2 x10_1).f2))).trans hx248_2
        replace hx248_3 := (cell_far (p := ⟨gb245, 2, none⟩) (by first | (rw [add_block]; exact hn248_0) | (show (Addr.add _ _).block ≠ _; rw [add_block]; exact hn248_0) | exact hn248_0) (.float .f64 ((rd_T58 l2 x10_1).f2))).trans hx248_3
        replace hx248_4 := (cell_far (p := ⟨gb245, 2, none⟩) (by first | (rw [add_block]; exact hn248_0) | (show (Addr.add _ _).block ≠ _; rw [add_block]; exact hn248_0) | exact hn248_0) (.float .f64 ((rd_T58 l2 x10_1).f2))).trans hx248_4
        replace hx248_5 := (cell_far (p := ⟨gb245, 2, none⟩) (by first | (rw [add_block]; exact hn248_0) | (show (Addr.add _ _).block ≠ _; rw [add_block]; exact hn248_0) | exact hn248_0) (.float .f64 ((rd_T58 l2 x10_1).f2))).trans hx248_5
        (try have hy248_0 := fun (n_ : Nat) => (show (((wr.drewN n_).setCell ⟨gb245, 2, none⟩ (.float .f64 ((rd_T58 l2 x10_1).f2)))).cell? _ = some _ from hx248_0))
        (try have hy248_1 := fun (n_ : Nat) => (show (((wr.drewN n_).setCell ⟨gb245, 2, none⟩ (.float .f64 ((rd_T58 l2 x10_1).f2)))).cell? _ = some _ from hx248_1))
        (try have hy248_2 := fun (n_ : Nat) => (show (((wr.drewN n_).setCell ⟨gb245, 2, none⟩ (.float .f64 ((rd_T58 l2 x10_1).f2)))).cell? _ = some _ from hx248_2))
        (try have hy248_3 := fun (n_ : Nat) => (show (((wr.drewN n_).setCell ⟨gb245, 2, none⟩ (.float .f64 ((rd_T58 l2 x10_1).f2)))).cell? _ = some _ from hx248_3))
        (try have hy248_4 := fun (n_ : Nat) => (show (((wr.drewN n_).setCell ⟨gb245, 2, none⟩ (.float .f64 ((rd_T58 l2 x10_1).f2)))).cell? _ = some _ from hx248_4))
        (try have hy248_5 := fun (n_ : Nat) => (show (((wr.drewN n_).setCell ⟨gb245, 2, none⟩ (.float .f64 ((rd_T58 l2 x10_1).f2)))).cell? _ = some _ from hx248_5))
        clear hn248_0
        replace p248 := eq_true p248
        replace q248 := eq_true q248
        go_wp2
        repeat (go_quiet (fail); try go_wp2)
        go_roundg k1
        case measure => have := HK1.out; omega
        case rel => exact ⟨(wrap64 (x10_1 + 1)), ((rd_T58 l2 x10_1).f0), ((rd_T58 l2 x10_1).f2), fz, H', ⟨by have := HK1.out; omega⟩, ⟨kp1 NB242_245 BK242.out⟩, ⟨kp BK245.out⟩, ⟨fb2 GE242 GE245⟩⟩
       ·rw [if_neg c18] at H
        have c18b0 := bf_ c18
        clear c18
        have H' := Aside0.mk H
        clear H
        have p246 : 0 ≤ (x10_1 : Int) := of_decide_eq_true (by first | (with_reducible assumption) | assumption)
        have q246 : x10_1 < (l2.length : Int) := of_decide_eq_true (by first | (with_reducible assumption) | assumption)
        obtain ⟨ad246, e246, hx246_0, hx246_1, hx246_2, hx246_3, hx246_4, hx246_5⟩ := at_T58 HR2.out x10_1 p246 q246
        cases e246
        replace hx246_0 := pw_cell_below HB.out hx246_0
        replace hx246_1 := pw_cell_below HB.out hx246_1
        replace hx246_2 := pw_cell_below HB.out hx246_2
        replace hx246_3 := pw_cell_below HB.out hx246_3
        replace hx246_4 := pw_cell_below HB.out hx246_4
        replace hx246_5 := pw_cell_below HB.out hx246_5
        replace p246 := eq_true p246
        replace q246 := eq_true q246
        have hnb21 := NB245_242.out
        have hnc21 := NB242_245.out
        obtain ⟨hcz22_0, hcz22_1, hcz22_2, hfz22_0, hfz22_1, hfz22_2⟩ := cz3 BK245.out
        go_wp2
        repeat (go_quiet (fail); try go_wp2)
        go_roundg k1
        case measure => have := HK1.out; omega
        case rel => exact ⟨(wrap64 (x10_1 + 1)), (x246001_1), (x246002_1), fz, H', ⟨by have := HK1.out; omega⟩, ⟨kp BK242.out⟩, ⟨kp BK245.out⟩, ⟨fb2 GE242 GE245⟩⟩
      ·rw [if_neg c17] at H
       exact absurd H (by simp)
     ·rw [if_neg c16] at H
      have c16b0 := decide_eq_false c16
      clear c16
      simp only [Option.some.injEq, Prod.mk.injEq] at H
      obtain ⟨rfl, rfl, rfl, rfl⟩ := H
      have hnb23 := NB245_242.out
      have hnc23 := NB242_245.out
      obtain ⟨hcz24_0, hcz24_1, hcz24_2, hfz24_0, hfz24_1, hfz24_2⟩ := cz3 BK245.out
      obtain ⟨hcz25_0, hcz25_1, hcz25_2, hfz25_0, hfz25_1, hfz25_2⟩ := cz3 BK242.out
      go_wp2
      repeat (go_quiet (fail); try go_wp2)
      refine bodyPost_ret (results_ct rfl _ _ gb242 34 #[.int .i64 a0, .int .i64 x246001_1, .float .f64 x246002_1] (0, 0) _ rfl (kp BK242.out) Try.underlying34 rfl (by kernel_rfl)) rfl ?_
      exact ⟨fe, fb2 GE242 GE245⟩
 ·rw [if_neg c5] at H
  have c5b0 := bh_ c5
  have c5b1 := bi_ c5
  simp only [Option.some.injEq, Prod.mk.injEq] at H
  obtain ⟨rfl, rfl, rfl, rfl⟩ := H
  go_enter Try.func28, Try.ntmps28
  go_wp2_with (first | ((with_reducible refine gate_dst (N := 6) rfl ?_); refine bx_ (N := 6) #[.int .i64 0, .int .i64 0, .float .f64 0] 34 ⟨fb⟩ ?_; clear HB; intro gb242 w26 HB BK242 GE242; have GW242 := GE242) | (go_at_call 65; (with_reducible refine (beaconref15_may.calls k a0 _ _ l2 t243 _ ?side1 ?side2 A4.out).mono ?_); (case side1 => repeat (first | exact (Kd.C_below HR2.out HB.out) | (with_reducible refine Kd.C_alloc ?_ _) | (with_reducible refine Kd.C_drewN ?_ _) | (with_reducible refine Kd.C_drew ?_))); (case side2 => exact HC2.out); rintro e w27 ⟨rfl, hb⟩; have n0_ := Aside0.mk (blk_below (g := gb242) (o := .cells #[.int .i64 0, .int .i64 0, .float .f64 0] 34 (0, 0)) (kp BK242.out) hb); have n1_ := Aside0.mk (below_step (fb1 GE242) hb); clear BK242; clear HB; have BK242 := n0_; have HB := n1_; clear n0_ n1_; (try clear hb); obtain ⟨hcz28_0, hcz28_1, hcz28_2, hfz28_0, hfz28_1, hfz28_2⟩ := cz3 BK242.out))
  repeat (go_quiet (first | ((with_reducible refine gate_dst (N := 6) rfl ?_); refine bx_ (N := 6) #[.int .i64 0, .int .i64 0, .float .f64 0] 34 ⟨fb⟩ ?_; clear HB; intro gb242 w26 HB BK242 GE242; have GW242 := GE242) | (go_at_call 65; (with_reducible refine (beaconref15_may.calls k a0 _ _ l2 t243 _ ?side1 ?side2 A4.out).mono ?_); (case side1 => repeat (first | exact (Kd.C_below HR2.out HB.out) | (with_reducible refine Kd.C_alloc ?_ _) | (with_reducible refine Kd.C_drewN ?_ _) | (with_reducible refine Kd.C_drew ?_))); (case side2 => exact HC2.out); rintro e w27 ⟨rfl, hb⟩; have n0_ := Aside0.mk (blk_below (g := gb242) (o := .cells #[.int .i64 0, .int .i64 0, .float .f64 0] 34 (0, 0)) (kp BK242.out) hb); have n1_ := Aside0.mk (below_step (fb1 GE242) hb); clear BK242; clear HB; have BK242 := n0_; have HB := n1_; clear n0_ n1_; (try clear hb); obtain ⟨hcz28_0, hcz28_1, hcz28_2, hfz28_0, hfz28_1, hfz28_2⟩ := cz3 BK242.out)); try go_wp2_with (first | ((with_reducible refine gate_dst (N := 6) rfl ?_); refine bx_ (N := 6) #[.int .i64 0, .int .i64 0, .float .f64 0] 34 ⟨fb⟩ ?_; clear HB; intro gb242 w26 HB BK242 GE242; have GW242 := GE242) | (go_at_call 65; (with_reducible refine (beaconref15_may.calls k a0 _ _ l2 t243 _ ?side1 ?side2 A4.out).mono ?_); (case side1 => repeat (first | exact (Kd.C_below HR2.out HB.out) | (with_reducible refine Kd.C_alloc ?_ _) | (with_reducible refine Kd.C_drewN ?_ _) | (with_reducible refine Kd.C_drew ?_))); (case side2 => exact HC2.out); rintro e w27 ⟨rfl, hb⟩; have n0_ := Aside0.mk (blk_below (g := gb242) (o := .cells #[.int .i64 0, .int .i64 0, .float .f64 0] 34 (0, 0)) (kp BK242.out) hb); have n1_ := Aside0.mk (below_step (fb1 GE242) hb); clear BK242; clear HB; have BK242 := n0_; have HB := n1_; clear n0_ n1_; (try clear hb); obtain ⟨hcz28_0, hcz28_1, hcz28_2, hfz28_0, hfz28_1, hfz28_2⟩ := cz3 BK242.out)))
  refine bodyPost_ret (results_ct rfl _ _ gb242 34 #[.int .i64 0, .int .i64 0, .float .f64 0] (0, 0) _ rfl (kp BK242.out) Try.underlying34 rfl (by kernel_rfl)) rfl ?_
  exact ⟨fe, fb1 GE242⟩

/-! ### beaconref01_Same: function 48 -/
def beaconref01_Same.f (a0 : Nat) (a1 : Nat) : Option (Bool) := some ((a0 : Int) == (a1 : Int))
set_option maxHeartbeats 8000000 in
set_option maxRecDepth 100000 in
theorem beaconref01_Same.calls (a0 : Nat) (a1 : Nat) (r : Bool) (w : World) (h : beaconref01_Same.f a0 a1 = some r) :
  Calls Try.prog 48 #[.float .f64 a0, .float .f64 a1] w fun e w' => e = .returned (.bool r) ∧ Drawn0 w w' := by
 have H : (some ((a0 : Int) == (a1 : Int))) = some r := h
 clear h
 obtain rfl := oj_ H
 go_enter Try.func48, Try.ntmps48
 go_wp2
 go_ret
 exact ⟨fz, fd⟩

end Go.Proofs.Ytjkhckbfkinheaa.GAa
