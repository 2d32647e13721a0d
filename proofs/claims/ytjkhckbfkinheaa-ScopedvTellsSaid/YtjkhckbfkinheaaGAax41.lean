-- written by a program of this session (wip/pp): see NOTES.md
import Derived.Test.YtjkhckbfkinheaaGAax0
import Derived.Test.YtjkhckbfkinheaaGAax2
import Derived.Test.YtjkhckbfkinheaaGAax40
namespace Go.Proofs.Ytjkhckbfkinheaa.GAa
open Go.RowKit Go.Proofs.YtjkhckbfkinheaaW.PrintWords Go.Proofs.YtjkhckbfkinheaaW.PrintLast Go.Proofs.YtjkhckbfkinheaaW.PrintMore
attribute [local go_sem] max2_int min2_int max_two min_two max_three min_three max_four min_four   -- for this text's walks alone
attribute [local go_sem high] binOp_flss binOp_fgtr binOp_fleq binOp_fgeq binOp_feql binOp_fneq run_fadd run_fsub run_fmul run_fquo unary_fneg run_ftoint run_fofint run_feqIn ext_bits ext_frombits ext_trunc
set_option linter.unusedVariables false
set_option linter.unusedSimpArgs false

/-! ### scopedv_ball: function 56 -/
mutual
def scopedv_ball.j0 : Nat → Bool → Int → Int → Nat → Int → Nat → Int → Option (Bool)
 | 0, _, _, _, _, _, _, _ => none
 | k + 1, x30, x513000, x513001, x513002, x513003, x513004, x513005 => if x30 = true then (some false) else ((scopedv_distance.f k x513002).bind fun t517 => (if t517 = true then (if (fEq x513002 0) = true then (scopedv_ball.j1 k true x513000 x513001 x513002 x513003 x513004 x513005) else ((math_IsInf.f x513002 1).bind fun t518 => (if t518 = true then (scopedv_ball.j1 k true x513000 x513001 x513002 x513003 x513004 x513005) else ((scopedv_distance.f k x513004).bind fun t519 => (if t519 = true then (scopedv_ball.j1 k (fLt x513004 x513002) x513000 x513001 x513002 x513003 x513004 x513005) else (scopedv_ball.j1 k true x513000 x513001 x513002 x513003 x513004 x513005)))))) else (scopedv_ball.j1 k true x513000 x513001 x513002 x513003 x513004 x513005)))
def scopedv_ball.j1 : Nat → Bool → Int → Int → Nat → Int → Nat → Int → Option (Bool)
 | 0, _, _, _, _, _, _, _ => none
 | k + 1, x57, x513000, x513001, x513002, x513003, x513004, x513005 => if x57 = true then (some false) else ((math_IsInf.f x513004 1).bind fun t520 => (if t520 = true then (some (x513005 == 0)) else ((scopedv_number.f k x513005).bind fun t521 => (some t521))))
end
def scopedv_ball.f (k : Nat) (a0 : Int) (a1_0 : Int) (a1_1 : Int) (a1_2 : Nat) (a1_3 : Int) (a1_4 : Nat) (a1_5 : Int) : Option (Bool) := if a1_1 = 2 then ((scopedv_number.f k a1_0).bind fun t513 => (if t513 = true then (if a1_0 = a0 then (scopedv_ball.j0 k true a1_0 a1_1 a1_2 a1_3 a1_4 a1_5) else ((scopedv_number.f k a1_3).bind fun t514 => (scopedv_ball.j0 k (!t514) a1_0 a1_1 a1_2 a1_3 a1_4 a1_5))) else (scopedv_ball.j0 k true a1_0 a1_1 a1_2 a1_3 a1_4 a1_5))) else (if a1_1 = 3 then ((scopedv_number.f k a1_0).bind fun t515 => (if t515 = true then (if a1_0 = a0 then (scopedv_ball.j0 k true a1_0 a1_1 a1_2 a1_3 a1_4 a1_5) else ((scopedv_number.f k a1_3).bind fun t516 => (scopedv_ball.j0 k (!t516) a1_0 a1_1 a1_2 a1_3 a1_4 a1_5))) else (scopedv_ball.j0 k true a1_0 a1_1 a1_2 a1_3 a1_4 a1_5))) else (scopedv_ball.j0 k true a1_0 a1_1 a1_2 a1_3 a1_4 a1_5))
set_option maxHeartbeats 8000000 in
set_option maxRecDepth 100000 in
theorem scopedv_ball.calls (k : Nat) (a0 : Int) (a1_0 : Int) (a1_1 : Int) (a1_2 : Nat) (a1_3 : Int) (a1_4 : Nat) (a1_5 : Int) (r : Bool) (w : World) (h : scopedv_ball.f k a0 a1_0 a1_1 a1_2 a1_3 a1_4 a1_5 = some r) :
  Calls Try.prog 56 #[.int .i64 a0, .agg #[.int .i64 a1_0, .int .i64 a1_1, .float .f64 a1_2, .int .i64 a1_3, .float .f64 a1_4, .int .i64 a1_5]] w fun e w' => e = .returned (.bool r) ∧ Below w.heap.size w w' := by
 have hu58 := Try.underlying58
 have HB := Aside0.mk (Below.refl w.heap.size w)
 have H : (if a1_1 = 2 then ((scopedv_number.f k a1_0).bind fun t513 => (if t513 = true then (if a1_0 = a0 then (scopedv_ball.j0 k true a1_0 a1_1 a1_2 a1_3 a1_4 a1_5) else ((scopedv_number.f k a1_3).bind fun t514 => (scopedv_ball.j0 k (!t514) a1_0 a1_1 a1_2 a1_3 a1_4 a1_5))) else (scopedv_ball.j0 k true a1_0 a1_1 a1_2 a1_3 a1_4 a1_5))) else (if a1_1 = 3 then ((scopedv_number.f k a1_0).bind fun t515 => (if t515 = true then (if a1_0 = a0 then (scopedv_ball.j0 k true a1_0 a1_1 a1_2 a1_3 a1_4 a1_5) else ((scopedv_number.f k a1_3).bind fun t516 => (scopedv_ball.j0 k (!t516) a1_0 a1_1 a1_2 a1_3 a1_4 a1_5))) else (scopedv_ball.j0 k true a1_0 a1_1 a1_2 a1_3 a1_4 a1_5))) else (scopedv_ball.j0 k true a1_0 a1_1 a1_2 a1_3 a1_4 a1_5))) = some r := h
 clear h
 have HC3 := Aside0.mk H
 clear H
 go_enter Try.func56, Try.ntmps56
 go_upto_region 1 with (first | ((with_reducible refine gate_dst (N := 3) rfl ?_); refine bx_ (N := 3) #[.int .i64 a1_0, .int .i64 a1_1, .float .f64 a1_2, .int .i64 a1_3, .float .f64 a1_4, .int .i64 a1_5] 58 ⟨fb⟩ ?_; clear HB; intro gb512 w4 HB BK512 GE512; have GW512 := GE512))
 (try simp only [Act.put, qa, qb, qc])
 go_cut [30] (fun v30 wc => ∃ (kq : Nat) (x30_2 : Bool), v30 = .bool x30_2 ∧ Aside0 (scopedv_ball.j0 kq x30_2 a1_0 a1_1 a1_2 a1_3 a1_4 a1_5 = some r) ∧ Aside0 (kq ≤ k) ∧ Aside0 (wc.heap[gb512]? = some (.cells #[.int .i64 a1_0, .int .i64 a1_1, .float .f64 a1_2, .int .i64 a1_3, .float .f64 a1_4, .int .i64 a1_5] 58 (0, 0))) ∧ Aside0 (Below w.heap.size w wc))
 case first =>
  have H := HC3.out
  clear HC3
  by_cases c5 : a1_1 = 2
  ·rw [if_pos c5] at H
   have c5b0 := be_ c5
   have c5b1 := bg_ c5
   clear c5
   (first | rw [c5b0] | (simp only [i64_w, i32_w]; rw [c5b0]) | skip)
   replace H := bs_ H; obtain ⟨t513, A6, H⟩ := H
   by_cases c7 : t513 = true
   ·subst c7
    rw [if_pos rfl] at H
    by_cases c8 : a1_0 = a0
    ·rw [if_pos c8] at H
     have c8b0 := be_ c8
     have c8b1 := bg_ c8
     clear c8
     have H' := Aside0.mk H
     clear H
     obtain ⟨hcz9_0, hcz9_1, hcz9_2, hcz9_3, hcz9_4, hcz9_5, hfz9_0, hfz9_1, hfz9_2, hfz9_3, hfz9_4, hfz9_5⟩ := cz6 BK512.out
     go_wp2_with (first | (go_at_call 54; (with_reducible refine (scopedv_number.calls k a1_0 true _ A6.out).mono ?_); rintro e w' ⟨rfl, ⟨nd, rfl⟩⟩))
     go_meet
     case rel => exact ⟨_, (true), fz, H', ⟨fl⟩, ⟨kp BK512.out⟩, ⟨fb1 GE512⟩⟩
    ·rw [if_neg c8] at H
     have c8b0 := bh_ c8
     have c8b1 := bi_ c8
     replace H := bs_ H; obtain ⟨t514, A10, H⟩ := H
     have H' := Aside0.mk H
     clear H
     obtain ⟨hcz11_0, hcz11_1, hcz11_2, hcz11_3, hcz11_4, hcz11_5, hfz11_0, hfz11_1, hfz11_2, hfz11_3, hfz11_4, hfz11_5⟩ := cz6 BK512.out
     go_wp2_with (first | (go_at_call 54; (with_reducible refine (scopedv_number.calls k a1_0 true _ A6.out).mono ?_); rintro e w' ⟨rfl, ⟨nd, rfl⟩⟩) | (go_at_call 54; (with_reducible refine (scopedv_number.calls k a1_3 t514 _ A10.out).mono ?_); rintro e w' ⟨rfl, ⟨nd, rfl⟩⟩))
     go_meet
     case rel => exact ⟨_, (!t514), fz, H', ⟨fl⟩, ⟨kp BK512.out⟩, ⟨fb1 GE512⟩⟩
   ·obtain rfl := bf_ c7
    rw [if_neg nf_] at H
    have H' := Aside0.mk H
    clear H
    obtain ⟨hcz12_0, hcz12_1, hcz12_2, hcz12_3, hcz12_4, hcz12_5, hfz12_0, hfz12_1, hfz12_2, hfz12_3, hfz12_4, hfz12_5⟩ := cz6 BK512.out
    go_wp2_with (first | (go_at_call 54; (with_reducible refine (scopedv_number.calls k a1_0 false _ A6.out).mono ?_); rintro e w' ⟨rfl, ⟨nd, rfl⟩⟩))
    go_meet
    case rel => exact ⟨_, (true), fz, H', ⟨fl⟩, ⟨kp BK512.out⟩, ⟨fb1 GE512⟩⟩
  ·rw [if_neg c5] at H
   have c5b0 := bh_ c5
   have c5b1 := bi_ c5
   (first | rw [c5b0] | (simp only [i64_w, i32_w]; rw [c5b0]) | skip)
   by_cases c13 : a1_1 = 3
   ·rw [if_pos c13] at H
    have c13b0 := be_ c13
    have c13b1 := bg_ c13
    clear c13
    replace H := bs_ H; obtain ⟨t515, A14, H⟩ := H
    by_cases c15 : t515 = true
    ·subst c15
     rw [if_pos rfl] at H
     by_cases c16 : a1_0 = a0
     ·rw [if_pos c16] at H
      have c16b0 := be_ c16
      have c16b1 := bg_ c16
      clear c16
      have H' := Aside0.mk H
      clear H
      obtain ⟨hcz17_0, hcz17_1, hcz17_2, hcz17_3, hcz17_4, hcz17_5, hfz17_0, hfz17_1, hfz17_2, hfz17_3, hfz17_4, hfz17_5⟩ := cz6 BK512.out
      go_wp2_with (first | (go_at_call 54; (with_reducible refine (scopedv_number.calls k a1_0 true _ A14.out).mono ?_); rintro e w' ⟨rfl, ⟨nd, rfl⟩⟩))
      go_meet
      case rel => exact ⟨_, (true), fz, H', ⟨fl⟩, ⟨kp BK512.out⟩, ⟨fb1 GE512⟩⟩
     ·rw [if_neg c16] at H
      have c16b0 := bh_ c16
      have c16b1 := bi_ c16
      replace H := bs_ H; obtain ⟨t516, A18, H⟩ := H
      have H' := Aside0.mk H
      clear H
      obtain ⟨hcz19_0, hcz19_1, hcz19_2, hcz19_3, hcz19_4, hcz19_5, hfz19_0, hfz19_1, hfz19_2, hfz19_3, hfz19_4, hfz19_5⟩ := cz6 BK512.out
      go_wp2_with (first | (go_at_call 54; (with_reducible refine (scopedv_number.calls k a1_0 true _ A14.out).mono ?_); rintro e w' ⟨rfl, ⟨nd, rfl⟩⟩) | (go_at_call 54; (with_reducible refine (scopedv_number.calls k a1_3 t516 _ A18.out).mono ?_); rintro e w' ⟨rfl, ⟨nd, rfl⟩⟩))
      go_meet
      case rel => exact ⟨_, (!t516), fz, H', ⟨fl⟩, ⟨kp BK512.out⟩, ⟨fb1 GE512⟩⟩
    ·obtain rfl := bf_ c15
     rw [if_neg nf_] at H
     have H' := Aside0.mk H
     clear H
     obtain ⟨hcz20_0, hcz20_1, hcz20_2, hcz20_3, hcz20_4, hcz20_5, hfz20_0, hfz20_1, hfz20_2, hfz20_3, hfz20_4, hfz20_5⟩ := cz6 BK512.out
     go_wp2_with (first | (go_at_call 54; (with_reducible refine (scopedv_number.calls k a1_0 false _ A14.out).mono ?_); rintro e w' ⟨rfl, ⟨nd, rfl⟩⟩))
     go_meet
     case rel => exact ⟨_, (true), fz, H', ⟨fl⟩, ⟨kp BK512.out⟩, ⟨fb1 GE512⟩⟩
   ·rw [if_neg c13] at H
    have c13b0 := bh_ c13
    have c13b1 := bi_ c13
    have H' := Aside0.mk H
    clear H
    obtain ⟨hcz21_0, hcz21_1, hcz21_2, hcz21_3, hcz21_4, hcz21_5, hfz21_0, hfz21_1, hfz21_2, hfz21_3, hfz21_4, hfz21_5⟩ := cz6 BK512.out
    go_wp2
    go_meet
    case rel => exact ⟨_, (true), fz, H', ⟨fl⟩, ⟨kp BK512.out⟩, ⟨fb1 GE512⟩⟩
 case rest =>
  clear HC3
  obtain ⟨kq, x30_2, rfl, HA, HJ2, BK512, HB⟩ := hcut
  cases kq with
  | zero => exact absurd HA.out (by simp [scopedv_ball.j0])
  | succ kj2 =>
   have H := HA.out
   clear HA
   simp only [scopedv_ball.j0] at H
   by_cases c22 : x30_2 = true
   ·subst c22
    rw [if_pos rfl] at H
    obtain rfl := oj_ H
    go_wp2
    go_ret
    exact ⟨fe, fb1 GE512⟩
   ·obtain rfl := bf_ c22
    rw [if_neg nf_] at H
    have HC23 := Aside0.mk H
    clear H
    go_upto_region 3 with (fail)
    go_cut [57] (fun v57 wc => ∃ (kq : Nat) (x57_22 : Bool), v57 = .bool x57_22 ∧ Aside0 (scopedv_ball.j1 kq x57_22 a1_0 a1_1 a1_2 a1_3 a1_4 a1_5 = some r) ∧ Aside0 (kq ≤ kj2) ∧ Aside0 (wc.heap[gb512]? = some (.cells #[.int .i64 a1_0, .int .i64 a1_1, .float .f64 a1_2, .int .i64 a1_3, .float .f64 a1_4, .int .i64 a1_5] 58 (0, 0))) ∧ Aside0 (Below w.heap.size w wc))
    case first =>
     have H := HC23.out
     clear HC23
     replace H := bs_ H; obtain ⟨t517, A24, H⟩ := H
     by_cases c25 : t517 = true
     ·subst c25
      rw [if_pos rfl] at H
      by_cases c26 : (fEq a1_2 0) = true
      ·rw [if_pos c26] at H
       have c26b0 : (fEq a1_2 0) = true := c26
       clear c26
       (first | rw [c26b0] | (simp only [i64_w, i32_w]; rw [c26b0]) | skip)
       have H' := Aside0.mk H
       clear H
       obtain ⟨hcz27_0, hcz27_1, hcz27_2, hcz27_3, hcz27_4, hcz27_5, hfz27_0, hfz27_1, hfz27_2, hfz27_3, hfz27_4, hfz27_5⟩ := cz6 BK512.out
       go_wp2_with (first | ((with_reducible refine gate_callee (f := 83) rfl ?_); refine gl_ (some 33) Try.func83 #[.float .f64 a1_2] ?_; (with_reducible refine (scopedv_distance.calls kj2 a1_2 true _ A24.out).mono ?_); rintro e w28 ⟨rfl, hb⟩; refine ⟨_, rfl, ?_⟩; have n0_ := Aside0.mk (blk_below (g := gb512) (o := .cells #[.int .i64 a1_0, .int .i64 a1_1, .float .f64 a1_2, .int .i64 a1_3, .float .f64 a1_4, .int .i64 a1_5] 58 (0, 0)) (kp BK512.out) hb); have n1_ := Aside0.mk (below_step (fb1 GE512) hb); clear BK512; clear HB; have BK512 := n0_; have HB := n1_; clear n0_ n1_; (try clear hb); obtain ⟨hcz29_0, hcz29_1, hcz29_2, hcz29_3, hcz29_4, hcz29_5, hfz29_0, hfz29_1, hfz29_2, hfz29_3, hfz29_4, hfz29_5⟩ := cz6 BK512.out))
       go_meet
       case rel => exact ⟨_, (true), fz, H', ⟨by have := HJ2.out; exact fl⟩, ⟨kp BK512.out⟩, ⟨fb1 GE512⟩⟩
      ·rw [if_neg c26] at H
       have c26b0 := bf_ c26
       clear c26
       (first | rw [c26b0] | (simp only [i64_w, i32_w]; rw [c26b0]) | skip)
       replace H := bs_ H; obtain ⟨t518, A30, H⟩ := H
       by_cases c31 : t518 = true
       ·subst c31
        rw [if_pos rfl] at H
        have H' := Aside0.mk H
        clear H
        obtain ⟨hcz32_0, hcz32_1, hcz32_2, hcz32_3, hcz32_4, hcz32_5, hfz32_0, hfz32_1, hfz32_2, hfz32_3, hfz32_4, hfz32_5⟩ := cz6 BK512.out
        go_wp2_with (first | ((with_reducible refine gate_callee (f := 83) rfl ?_); refine gl_ (some 33) Try.func83 #[.float .f64 a1_2] ?_; (with_reducible refine (scopedv_distance.calls kj2 a1_2 true _ A24.out).mono ?_); rintro e w33 ⟨rfl, hb⟩; refine ⟨_, rfl, ?_⟩; have n0_ := Aside0.mk (blk_below (g := gb512) (o := .cells #[.int .i64 a1_0, .int .i64 a1_1, .float .f64 a1_2, .int .i64 a1_3, .float .f64 a1_4, .int .i64 a1_5] 58 (0, 0)) (kp BK512.out) hb); have n1_ := Aside0.mk (below_step (fb1 GE512) hb); clear BK512; clear HB; have BK512 := n0_; have HB := n1_; clear n0_ n1_; (try clear hb); obtain ⟨hcz34_0, hcz34_1, hcz34_2, hcz34_3, hcz34_4, hcz34_5, hfz34_0, hfz34_1, hfz34_2, hfz34_3, hfz34_4, hfz34_5⟩ := cz6 BK512.out) | (go_at_call 62; (with_reducible refine (math_IsInf.calls a1_2 1 true _ A30.out).mono ?_); rintro e w' ⟨rfl, ⟨nd, rfl⟩⟩))
        go_meet
        case rel => exact ⟨_, (true), fz, H', ⟨by have := HJ2.out; exact fl⟩, ⟨kp BK512.out⟩, ⟨fb1 GE512⟩⟩
       ·obtain rfl := bf_ c31
        rw [if_neg nf_] at H
        replace H := bs_ H; obtain ⟨t519, A35, H⟩ := H
        by_cases c36 : t519 = true
        ·subst c36
         rw [if_pos rfl] at H
         have H' := Aside0.mk H
         clear H
         obtain ⟨hcz37_0, hcz37_1, hcz37_2, hcz37_3, hcz37_4, hcz37_5, hfz37_0, hfz37_1, hfz37_2, hfz37_3, hfz37_4, hfz37_5⟩ := cz6 BK512.out
         go_wp2_with (first | ((with_reducible refine gate_callee (f := 83) rfl ?_); refine gl_ (some 33) Try.func83 #[.float .f64 a1_2] ?_; (with_reducible refine (scopedv_distance.calls kj2 a1_2 true _ A24.out).mono ?_); rintro e w38 ⟨rfl, hb⟩; refine ⟨_, rfl, ?_⟩; have n0_ := Aside0.mk (blk_below (g := gb512) (o := .cells #[.int .i64 a1_0, .int .i64 a1_1, .float .f64 a1_2, .int .i64 a1_3, .float .f64 a1_4, .int .i64 a1_5] 58 (0, 0)) (kp BK512.out) hb); have n1_ := Aside0.mk (below_step (fb1 GE512) hb); clear BK512; clear HB; have BK512 := n0_; have HB := n1_; clear n0_ n1_; (try clear hb); obtain ⟨hcz39_0, hcz39_1, hcz39_2, hcz39_3, hcz39_4, hcz39_5, hfz39_0, hfz39_1, hfz39_2, hfz39_3, hfz39_4, hfz39_5⟩ := cz6 BK512.out) | (go_at_call 62; (with_reducible refine (math_IsInf.calls a1_2 1 false _ A30.out).mono ?_); rintro e w' ⟨rfl, ⟨nd, rfl⟩⟩) | (go_at_call 83; (with_reducible refine (scopedv_distance.calls kj2 a1_4 true _ A35.out).mono ?_); rintro e w40 ⟨rfl, hb⟩; have n0_ := Aside0.mk (blk_below (g := gb512) (o := .cells #[.int .i64 a1_0, .int .i64 a1_1, .float .f64 a1_2, .int .i64 a1_3, .float .f64 a1_4, .int .i64 a1_5] 58 (0, 0)) (kp BK512.out) hb); have n1_ := Aside0.mk (below_step (fb1 GE512) hb); clear BK512; clear HB; have BK512 := n0_; have HB := n1_; clear n0_ n1_; (try clear hb); obtain ⟨hcz41_0, hcz41_1, hcz41_2, hcz41_3, hcz41_4, hcz41_5, hfz41_0, hfz41_1, hfz41_2, hfz41_3, hfz41_4, hfz41_5⟩ := cz6 BK512.out))
         go_meet
         case rel => exact ⟨_, ((fLt a1_4 a1_2)), fz, H', ⟨by have := HJ2.out; exact fl⟩, ⟨kp BK512.out⟩, ⟨fb1 GE512⟩⟩
        ·obtain rfl := bf_ c36
         rw [if_neg nf_] at H
         have H' := Aside0.mk H
         clear H
         obtain ⟨hcz42_0, hcz42_1, hcz42_2, hcz42_3, hcz42_4, hcz42_5, hfz42_0, hfz42_1, hfz42_2, hfz42_3, hfz42_4, hfz42_5⟩ := cz6 BK512.out
         go_wp2_with (first | ((with_reducible refine gate_callee (f := 83) rfl ?_); refine gl_ (some 33) Try.func83 #[.float .f64 a1_2] ?_; (with_reducible refine (scopedv_distance.calls kj2 a1_2 true _ A24.out).mono ?_); rintro e w43 ⟨rfl, hb⟩; refine ⟨_, rfl, ?_⟩; have n0_ := Aside0.mk (blk_below (g := gb512) (o := .cells #[.int .i64 a1_0, .int .i64 a1_1, .float .f64 a1_2, .int .i64 a1_3, .float .f64 a1_4, .int .i64 a1_5] 58 (0, 0)) (kp BK512.out) hb); have n1_ := Aside0.mk (below_step (fb1 GE512) hb); clear BK512; clear HB; have BK512 := n0_; have HB := n1_; clear n0_ n1_; (try clear hb); obtain ⟨hcz44_0, hcz44_1, hcz44_2, hcz44_3, hcz44_4, hcz44_5, hfz44_0, hfz44_1, hfz44_2, hfz44_3, hfz44_4, hfz44_5⟩ := cz6 BK512.out) | (go_at_call 62; (with_reducible refine (math_IsInf.calls a1_2 1 false _ A30.out).mono ?_); rintro e w' ⟨rfl, ⟨nd, rfl⟩⟩) | (go_at_call 83; (with_reducible refine (scopedv_distance.calls kj2 a1_4 false _ A35.out).mono ?_); rintro e w45 ⟨rfl, hb⟩; have n0_ := Aside0.mk (blk_below (g := gb512) (o := .cells #[.int .i64 a1_0, .int .i64 a1_1, .float .f64 a1_2, .int .i64 a1_3, .float .f64 a1_4, .int .i64 a1_5] 58 (0, 0)) (kp BK512.out) hb); have n1_ := Aside0.mk (below_step (fb1 GE512) hb); clear BK512; clear HB; have BK512 := n0_; have HB := n1_; clear n0_ n1_; (try clear hb)))
         go_meet
         case rel => exact ⟨_, (true), fz, H', ⟨by have := HJ2.out; exact fl⟩, ⟨kp BK512.out⟩, ⟨fb1 GE512⟩⟩
     ·obtain rfl := bf_ c25
      rw [if_neg nf_] at H
      have H' := Aside0.mk H
      clear H
      obtain ⟨hcz46_0, hcz46_1, hcz46_2, hcz46_3, hcz46_4, hcz46_5, hfz46_0, hfz46_1, hfz46_2, hfz46_3, hfz46_4, hfz46_5⟩ := cz6 BK512.out
      go_wp2_with (first | ((with_reducible refine gate_callee (f := 83) rfl ?_); refine gl_ (some 33) Try.func83 #[.float .f64 a1_2] ?_; (with_reducible refine (scopedv_distance.calls kj2 a1_2 false _ A24.out).mono ?_); rintro e w47 ⟨rfl, hb⟩; refine ⟨_, rfl, ?_⟩; have n0_ := Aside0.mk (blk_below (g := gb512) (o := .cells #[.int .i64 a1_0, .int .i64 a1_1, .float .f64 a1_2, .int .i64 a1_3, .float .f64 a1_4, .int .i64 a1_5] 58 (0, 0)) (kp BK512.out) hb); have n1_ := Aside0.mk (below_step (fb1 GE512) hb); clear BK512; clear HB; have BK512 := n0_; have HB := n1_; clear n0_ n1_; (try clear hb)))
      go_meet
      case rel => exact ⟨_, (true), fz, H', ⟨by have := HJ2.out; exact fl⟩, ⟨kp BK512.out⟩, ⟨fb1 GE512⟩⟩
    case rest =>
     clear HC23
     (try clear c22)
     obtain ⟨kq, x57_22, rfl, HA, HJ22, BK512, HB⟩ := hcut
     cases kq with
     | zero => exact absurd HA.out (by simp [scopedv_ball.j1])
     | succ kj22 =>
      have H := HA.out
      clear HA
      simp only [scopedv_ball.j1] at H
      by_cases c48 : x57_22 = true
      ·subst c48
       rw [if_pos rfl] at H
       obtain rfl := oj_ H
       go_wp2
       go_ret
       exact ⟨fe, fb1 GE512⟩
      ·obtain rfl := bf_ c48
       rw [if_neg nf_] at H
       replace H := bs_ H; obtain ⟨t520, A49, H⟩ := H
       by_cases c50 : t520 = true
       ·subst c50
        rw [if_pos rfl] at H
        obtain rfl := oj_ H
        obtain ⟨hcz51_0, hcz51_1, hcz51_2, hcz51_3, hcz51_4, hcz51_5, hfz51_0, hfz51_1, hfz51_2, hfz51_3, hfz51_4, hfz51_5⟩ := cz6 BK512.out
        go_wp2_with (first | ((with_reducible refine gate_callee (f := 62) rfl ?_); refine gl_ (some 60) Try.func62 #[.float .f64 a1_4, .int .i64 1] ?_; (with_reducible refine (math_IsInf.calls a1_4 1 true _ A49.out).mono ?_); rintro e w' ⟨rfl, ⟨nd, rfl⟩⟩; refine ⟨_, rfl, ?_⟩))
        go_ret
        exact ⟨fe, fb1 GE512⟩
       ·obtain rfl := bf_ c50
        rw [if_neg nf_] at H
        replace H := bs_ H; obtain ⟨t521, A52, H⟩ := H
        obtain rfl := oj_ H
        obtain ⟨hcz53_0, hcz53_1, hcz53_2, hcz53_3, hcz53_4, hcz53_5, hfz53_0, hfz53_1, hfz53_2, hfz53_3, hfz53_4, hfz53_5⟩ := cz6 BK512.out
        go_wp2_with (first | ((with_reducible refine gate_callee (f := 62) rfl ?_); refine gl_ (some 60) Try.func62 #[.float .f64 a1_4, .int .i64 1] ?_; (with_reducible refine (math_IsInf.calls a1_4 1 false _ A49.out).mono ?_); rintro e w' ⟨rfl, ⟨nd, rfl⟩⟩; refine ⟨_, rfl, ?_⟩) | ((with_reducible refine gate_callee (f := 54) rfl ?_); refine gl_ (some 66) Try.func54 #[.int .i64 a1_5] ?_; (with_reducible refine (scopedv_number.calls kj22 a1_5 t521 _ A52.out).mono ?_); rintro e w' ⟨rfl, ⟨nd, rfl⟩⟩; refine ⟨_, rfl, ?_⟩))
        go_ret
        exact ⟨fe, fb1 GE512⟩

end Go.Proofs.Ytjkhckbfkinheaa.GAa
