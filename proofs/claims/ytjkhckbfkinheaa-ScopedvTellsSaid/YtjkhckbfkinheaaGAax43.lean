-- written by a program of this session (wip/pp): see NOTES.md
import Derived.Test.YtjkhckbfkinheaaGAax0
import Derived.Test.YtjkhckbfkinheaaGAax2
import Derived.Test.YtjkhckbfkinheaaGAax17
namespace Go.Proofs.Ytjkhckbfkinheaa.GAa
open Go.RowKit Go.Proofs.YtjkhckbfkinheaaW.PrintWords Go.Proofs.YtjkhckbfkinheaaW.PrintLast Go.Proofs.YtjkhckbfkinheaaW.PrintMore
attribute [local go_sem] max2_int min2_int max_two min_two max_three min_three max_four min_four   -- for this text's walks alone
attribute [local go_sem high] binOp_flss binOp_fgtr binOp_fleq binOp_fgeq binOp_feql binOp_fneq run_fadd run_fsub run_fmul run_fquo unary_fneg run_ftoint run_fofint run_feqIn ext_bits ext_frombits ext_trunc
set_option linter.unusedVariables false
set_option linter.unusedSimpArgs false

/-! ### beaconref16_number: function 59 -/
def beaconref16_number.f (k : Nat) (a0 : Int) : Option (Bool) := (beaconref02_CheckId.f k a0).bind fun t537 => (some (t537 == 0))
set_option maxHeartbeats 8000000 in
set_option maxRecDepth 100000 in
theorem beaconref16_number.calls (k : Nat) (a0 : Int) (r : Bool) (w : World) (h : beaconref16_number.f k a0 = some r) :
  Calls Try.prog 59 #[.int .i64 a0] w fun e w' => e = .returned (.bool r) ∧ Drawn0 w w' := by
 have H : ((beaconref02_CheckId.f k a0).bind fun t537 => (some (t537 == 0))) = some r := h
 clear h
 replace H := bs_ H; obtain ⟨t537, A2, H⟩ := H
 obtain rfl := oj_ H
 go_enter Try.func59, Try.ntmps59
 go_wp2_with (first | ((with_reducible refine gate_callee (f := 82) rfl ?_); refine gl_ (some 4) Try.func82 #[.int .i64 a0] ?_; (with_reducible refine (beaconref02_CheckId.calls k a0 t537 _ A2.out).mono ?_); rintro e w' ⟨rfl, ⟨nd, rfl⟩⟩; refine ⟨_, rfl, ?_⟩))
 go_ret
 exact ⟨fz, fd⟩

/-! ### beaconref16_far: function 60 -/
def beaconref16_far.f (a0 : Nat) : Option (Bool) := (math_IsInf.f a0 1).bind fun t538 => (some t538)
set_option maxHeartbeats 8000000 in
set_option maxRecDepth 100000 in
theorem beaconref16_far.calls (a0 : Nat) (r : Bool) (w : World) (h : beaconref16_far.f a0 = some r) :
  Calls Try.prog 60 #[.float .f64 a0] w fun e w' => e = .returned (.bool r) ∧ Drawn0 w w' := by
 have H : ((math_IsInf.f a0 1).bind fun t538 => (some t538)) = some r := h
 clear h
 replace H := bs_ H; obtain ⟨t538, A2, H⟩ := H
 obtain rfl := oj_ H
 go_enter Try.func60, Try.ntmps60
 go_wp2_with (first | ((with_reducible refine gate_callee (f := 62) rfl ?_); refine gl_ (some 4) Try.func62 #[.float .f64 a0, .int .i64 1] ?_; (with_reducible refine (math_IsInf.calls a0 1 t538 _ A2.out).mono ?_); rintro e w' ⟨rfl, ⟨nd, rfl⟩⟩; refine ⟨_, rfl, ?_⟩))
 go_ret
 exact ⟨fz, fd⟩

/-! ### beaconref16_MayHome: function 23 -/
def beaconref16_MayHome.f (k : Nat) (a0 : Int) (a1_0 : Int) (a1_1 : Int) (a1_2 : Nat) : Option (Bool) := if a1_0 = a0 then (if a1_1 = 0 then ((beaconref16_far.f a1_2).bind fun t540 => (some t540)) else ((beaconref16_number.f k a1_1).bind fun t541 => (if t541 = true then ((beaconref06_Far.f k a1_2).bind fun t542 => (if t542 = true then ((beaconref16_far.f a1_2).bind fun t543 => (if t543 = true then (some false) else (some ((fEq a1_2 0) == (a1_1 == a0))))) else (some false))) else (some false)))) else (some false)
set_option maxHeartbeats 8000000 in
set_option maxRecDepth 100000 in
theorem beaconref16_MayHome.calls (k : Nat) (a0 : Int) (a1_0 : Int) (a1_1 : Int) (a1_2 : Nat) (r : Bool) (w : World) (h : beaconref16_MayHome.f k a0 a1_0 a1_1 a1_2 = some r) :
  Calls Try.prog 23 #[.int .i64 a0, .agg #[.int .i64 a1_0, .int .i64 a1_1, .float .f64 a1_2]] w fun e w' => e = .returned (.bool r) ∧ Below w.heap.size w w' := by
 have hu34 := Try.underlying34
 have HB := Aside0.mk (Below.refl w.heap.size w)
 have H : (if a1_0 = a0 then (if a1_1 = 0 then ((beaconref16_far.f a1_2).bind fun t540 => (some t540)) else ((beaconref16_number.f k a1_1).bind fun t541 => (if t541 = true then ((beaconref06_Far.f k a1_2).bind fun t542 => (if t542 = true then ((beaconref16_far.f a1_2).bind fun t543 => (if t543 = true then (some false) else (some ((fEq a1_2 0) == (a1_1 == a0))))) else (some false))) else (some false)))) else (some false)) = some r := h
 clear h
 by_cases c3 : a1_0 = a0
 ·rw [if_pos c3] at H
  have c3b0 := be_ c3
  have c3b1 := bg_ c3
  clear c3
  by_cases c4 : a1_1 = 0
  ·rw [if_pos c4] at H
   have c4b0 := be_ c4
   have c4b1 := bg_ c4
   clear c4
   replace H := bs_ H; obtain ⟨t540, A5, H⟩ := H
   obtain rfl := oj_ H
   go_enter Try.func23, Try.ntmps23
   go_wp2_with (first | ((with_reducible refine gate_dst (N := 3) rfl ?_); refine bx_ (N := 3) #[.int .i64 a1_0, .int .i64 a1_1, .float .f64 a1_2] 34 ⟨fb⟩ ?_; clear HB; intro gb539 w6 HB BK539 GE539; have GW539 := GE539; obtain ⟨hcz7_0, hcz7_1, hcz7_2, hfz7_0, hfz7_1, hfz7_2⟩ := cz3 BK539.out) | ((with_reducible refine gate_callee (f := 60) rfl ?_); refine gl_ (some 14) Try.func60 #[.float .f64 a1_2] ?_; (with_reducible refine (beaconref16_far.calls a1_2 t540 _ A5.out).mono ?_); rintro e w' ⟨rfl, ⟨nd, rfl⟩⟩; refine ⟨_, rfl, ?_⟩))
   go_ret
   exact ⟨fe, fb1 GE539⟩
  ·rw [if_neg c4] at H
   have c4b0 := bh_ c4
   have c4b1 := bi_ c4
   replace H := bs_ H; obtain ⟨t541, A8, H⟩ := H
   by_cases c9 : t541 = true
   ·subst c9
    rw [if_pos rfl] at H
    replace H := bs_ H; obtain ⟨t542, A10, H⟩ := H
    by_cases c11 : t542 = true
    ·subst c11
     rw [if_pos rfl] at H
     replace H := bs_ H; obtain ⟨t543, A12, H⟩ := H
     by_cases c13 : t543 = true
     ·subst c13
      rw [if_pos rfl] at H
      obtain rfl := oj_ H
      go_enter Try.func23, Try.ntmps23
      go_wp2_with (first | ((with_reducible refine gate_dst (N := 3) rfl ?_); refine bx_ (N := 3) #[.int .i64 a1_0, .int .i64 a1_1, .float .f64 a1_2] 34 ⟨fb⟩ ?_; clear HB; intro gb539 w14 HB BK539 GE539; have GW539 := GE539; obtain ⟨hcz15_0, hcz15_1, hcz15_2, hfz15_0, hfz15_1, hfz15_2⟩ := cz3 BK539.out) | ((with_reducible refine gate_callee (f := 59) rfl ?_); refine gl_ (some 17) Try.func59 #[.int .i64 a1_1] ?_; (with_reducible refine (beaconref16_number.calls k a1_1 true _ A8.out).mono ?_); rintro e w' ⟨rfl, ⟨nd, rfl⟩⟩; refine ⟨_, rfl, ?_⟩) | (go_at_call 61; (with_reducible refine (beaconref06_Far.calls k a1_2 true _ A10.out).mono ?_); rintro e w' ⟨rfl, ⟨nd, rfl⟩⟩) | (go_at_call 60; (with_reducible refine (beaconref16_far.calls a1_2 true _ A12.out).mono ?_); rintro e w' ⟨rfl, ⟨nd, rfl⟩⟩))
      go_ret
      exact ⟨fe, fb1 GE539⟩
     ·obtain rfl := bf_ c13
      rw [if_neg nf_] at H
      obtain rfl := oj_ H
      go_enter Try.func23, Try.ntmps23
      go_wp2_with (first | ((with_reducible refine gate_dst (N := 3) rfl ?_); refine bx_ (N := 3) #[.int .i64 a1_0, .int .i64 a1_1, .float .f64 a1_2] 34 ⟨fb⟩ ?_; clear HB; intro gb539 w16 HB BK539 GE539; have GW539 := GE539; obtain ⟨hcz17_0, hcz17_1, hcz17_2, hfz17_0, hfz17_1, hfz17_2⟩ := cz3 BK539.out) | ((with_reducible refine gate_callee (f := 59) rfl ?_); refine gl_ (some 17) Try.func59 #[.int .i64 a1_1] ?_; (with_reducible refine (beaconref16_number.calls k a1_1 true _ A8.out).mono ?_); rintro e w' ⟨rfl, ⟨nd, rfl⟩⟩; refine ⟨_, rfl, ?_⟩) | (go_at_call 61; (with_reducible refine (beaconref06_Far.calls k a1_2 true _ A10.out).mono ?_); rintro e w' ⟨rfl, ⟨nd, rfl⟩⟩) | (go_at_call 60; (with_reducible refine (beaconref16_far.calls a1_2 false _ A12.out).mono ?_); rintro e w' ⟨rfl, ⟨nd, rfl⟩⟩))
      go_ret
      exact ⟨fe, fb1 GE539⟩
    ·obtain rfl := bf_ c11
     rw [if_neg nf_] at H
     obtain rfl := oj_ H
     go_enter Try.func23, Try.ntmps23
     go_wp2_with (first | ((with_reducible refine gate_dst (N := 3) rfl ?_); refine bx_ (N := 3) #[.int .i64 a1_0, .int .i64 a1_1, .float .f64 a1_2] 34 ⟨fb⟩ ?_; clear HB; intro gb539 w18 HB BK539 GE539; have GW539 := GE539; obtain ⟨hcz19_0, hcz19_1, hcz19_2, hfz19_0, hfz19_1, hfz19_2⟩ := cz3 BK539.out) | ((with_reducible refine gate_callee (f := 59) rfl ?_); refine gl_ (some 17) Try.func59 #[.int .i64 a1_1] ?_; (with_reducible refine (beaconref16_number.calls k a1_1 true _ A8.out).mono ?_); rintro e w' ⟨rfl, ⟨nd, rfl⟩⟩; refine ⟨_, rfl, ?_⟩) | (go_at_call 61; (with_reducible refine (beaconref06_Far.calls k a1_2 false _ A10.out).mono ?_); rintro e w' ⟨rfl, ⟨nd, rfl⟩⟩))
     go_ret
     exact ⟨fe, fb1 GE539⟩
   ·obtain rfl := bf_ c9
    rw [if_neg nf_] at H
    obtain rfl := oj_ H
    go_enter Try.func23, Try.ntmps23
    go_wp2_with (first | ((with_reducible refine gate_dst (N := 3) rfl ?_); refine bx_ (N := 3) #[.int .i64 a1_0, .int .i64 a1_1, .float .f64 a1_2] 34 ⟨fb⟩ ?_; clear HB; intro gb539 w20 HB BK539 GE539; have GW539 := GE539; obtain ⟨hcz21_0, hcz21_1, hcz21_2, hfz21_0, hfz21_1, hfz21_2⟩ := cz3 BK539.out) | ((with_reducible refine gate_callee (f := 59) rfl ?_); refine gl_ (some 17) Try.func59 #[.int .i64 a1_1] ?_; (with_reducible refine (beaconref16_number.calls k a1_1 false _ A8.out).mono ?_); rintro e w' ⟨rfl, ⟨nd, rfl⟩⟩; refine ⟨_, rfl, ?_⟩))
    go_ret
    exact ⟨fe, fb1 GE539⟩
 ·rw [if_neg c3] at H
  have c3b0 := bh_ c3
  have c3b1 := bi_ c3
  obtain rfl := oj_ H
  go_enter Try.func23, Try.ntmps23
  go_wp2_with (first | ((with_reducible refine gate_dst (N := 3) rfl ?_); refine bx_ (N := 3) #[.int .i64 a1_0, .int .i64 a1_1, .float .f64 a1_2] 34 ⟨fb⟩ ?_; clear HB; intro gb539 w22 HB BK539 GE539; have GW539 := GE539; obtain ⟨hcz23_0, hcz23_1, hcz23_2, hfz23_0, hfz23_1, hfz23_2⟩ := cz3 BK539.out))
  go_ret
  exact ⟨fe, fb1 GE539⟩

/-! ### beaconref16_ahead: function 38 -/
def beaconref16_ahead.f (a0_0 : Int) (a0_1 : Int) (a0_2 : Nat) (a0_3 : Int) (a0_4 : Nat) (a0_5 : Int) (a1_0 : Int) (a1_1 : Int) (a1_2 : Nat) (a1_3 : Int) (a1_4 : Nat) (a1_5 : Int) : Option (Bool) := if a0_1 < a1_1 then (some true) else (if a0_1 = a1_1 then (some (decide (a0_0 < a1_0))) else (some false))
set_option maxHeartbeats 8000000 in
set_option maxRecDepth 100000 in
theorem beaconref16_ahead.calls (a0_0 : Int) (a0_1 : Int) (a0_2 : Nat) (a0_3 : Int) (a0_4 : Nat) (a0_5 : Int) (a1_0 : Int) (a1_1 : Int) (a1_2 : Nat) (a1_3 : Int) (a1_4 : Nat) (a1_5 : Int) (r : Bool) (w : World) (h : beaconref16_ahead.f a0_0 a0_1 a0_2 a0_3 a0_4 a0_5 a1_0 a1_1 a1_2 a1_3 a1_4 a1_5 = some r) :
  Calls Try.prog 38 #[.agg #[.int .i64 a0_0, .int .i64 a0_1, .float .f64 a0_2, .int .i64 a0_3, .float .f64 a0_4, .int .i64 a0_5], .agg #[.int .i64 a1_0, .int .i64 a1_1, .float .f64 a1_2, .int .i64 a1_3, .float .f64 a1_4, .int .i64 a1_5]] w fun e w' => e = .returned (.bool r) ∧ Below w.heap.size w w' := by
 have hu58 := Try.underlying58
 have HB := Aside0.mk (Below.refl w.heap.size w)
 have H : (if a0_1 < a1_1 then (some true) else (if a0_1 = a1_1 then (some (decide (a0_0 < a1_0))) else (some false))) = some r := h
 clear h
 by_cases c3 : a0_1 < a1_1
 ·rw [if_pos c3] at H
  have c3b0 := decide_eq_true c3
  clear c3
  obtain rfl := oj_ H
  go_enter Try.func38, Try.ntmps38
  go_wp2_with (first | ((with_reducible refine gate_dst (N := 2) rfl ?_); refine bx_ (N := 2) #[.int .i64 a0_0, .int .i64 a0_1, .float .f64 a0_2, .int .i64 a0_3, .float .f64 a0_4, .int .i64 a0_5] 58 ⟨fb⟩ ?_; clear HB; intro gb544 w4 HB BK544 GE544; have GW544 := GE544) | ((with_reducible refine gate_dst (N := 3) rfl ?_); refine bz_ (N := 3) #[.int .i64 a1_0, .int .i64 a1_1, .float .f64 a1_2, .int .i64 a1_3, .float .f64 a1_4, .int .i64 a1_5] 58 ?_; intro gb545 hg w5 hbox hb; have n0_ := Aside0.mk (blk_below (g := gb544) (o := .cells #[.int .i64 a0_0, .int .i64 a0_1, .float .f64 a0_2, .int .i64 a0_3, .float .f64 a0_4, .int .i64 a0_5] 58 (0, 0)) (kp BK544.out) hb); have n1_ := Aside0.mk (below_step (fb1 GE544) hb); have n2_ := Aside0.mk (hbox); have n3_ := Aside0.mk ((by rw [hg]; exact (below_size (fb1 GE544)) : w.heap.size ≤ gb545)); have n4_ := Aside0.mk ((by rw [hg]; exact (below_size (fb1 GE544)) : w.heap.size ≤ gb545)); have n5_ := Aside0.mk ((by rw [hg]; exact Nat.ne_of_lt (blk_lt (g := gb544) (o := .cells #[.int .i64 a0_0, .int .i64 a0_1, .float .f64 a0_2, .int .i64 a0_3, .float .f64 a0_4, .int .i64 a0_5] 58 (0, 0)) (kp BK544.out)) : gb544 ≠ gb545)); have n6_ := Aside0.mk ((by rw [hg]; exact Nat.ne_of_gt (blk_lt (g := gb544) (o := .cells #[.int .i64 a0_0, .int .i64 a0_1, .float .f64 a0_2, .int .i64 a0_3, .float .f64 a0_4, .int .i64 a0_5] 58 (0, 0)) (kp BK544.out)) : gb545 ≠ gb544)); clear BK544; clear HB; have BK544 := n0_; have HB := n1_; have BK545 := n2_; have GW545 := n3_; have GE545 := n4_; have NB544_545 := n5_; have NB545_544 := n6_; clear n0_ n1_ n2_ n3_ n4_ n5_ n6_; clear hb hbox hg; have hnb6 := NB544_545.out; have hnc6 := NB545_544.out; obtain ⟨hcz7_0, hcz7_1, hcz7_2, hcz7_3, hcz7_4, hcz7_5, hfz7_0, hfz7_1, hfz7_2, hfz7_3, hfz7_4, hfz7_5⟩ := cz6 BK544.out; obtain ⟨hcz8_0, hcz8_1, hcz8_2, hcz8_3, hcz8_4, hcz8_5, hfz8_0, hfz8_1, hfz8_2, hfz8_3, hfz8_4, hfz8_5⟩ := cz6 BK545.out))
  go_ret
  exact ⟨fe, fb2 GE544 GE545⟩
 ·rw [if_neg c3] at H
  have c3b0 := decide_eq_false c3
  clear c3
  by_cases c9 : a0_1 = a1_1
  ·rw [if_pos c9] at H
   have c9b0 := be_ c9
   have c9b1 := bg_ c9
   clear c9
   obtain rfl := oj_ H
   go_enter Try.func38, Try.ntmps38
   go_wp2_with (first | ((with_reducible refine gate_dst (N := 2) rfl ?_); refine bx_ (N := 2) #[.int .i64 a0_0, .int .i64 a0_1, .float .f64 a0_2, .int .i64 a0_3, .float .f64 a0_4, .int .i64 a0_5] 58 ⟨fb⟩ ?_; clear HB; intro gb544 w10 HB BK544 GE544; have GW544 := GE544) | ((with_reducible refine gate_dst (N := 3) rfl ?_); refine bz_ (N := 3) #[.int .i64 a1_0, .int .i64 a1_1, .float .f64 a1_2, .int .i64 a1_3, .float .f64 a1_4, .int .i64 a1_5] 58 ?_; intro gb545 hg w11 hbox hb; have n0_ := Aside0.mk (blk_below (g := gb544) (o := .cells #[.int .i64 a0_0, .int .i64 a0_1, .float .f64 a0_2, .int .i64 a0_3, .float .f64 a0_4, .int .i64 a0_5] 58 (0, 0)) (kp BK544.out) hb); have n1_ := Aside0.mk (below_step (fb1 GE544) hb); have n2_ := Aside0.mk (hbox); have n3_ := Aside0.mk ((by rw [hg]; exact (below_size (fb1 GE544)) : w.heap.size ≤ gb545)); have n4_ := Aside0.mk ((by rw [hg]; exact (below_size (fb1 GE544)) : w.heap.size ≤ gb545)); have n5_ := Aside0.mk ((by rw [hg]; exact Nat.ne_of_lt (blk_lt (g := gb544) (o := .cells #[.int .i64 a0_0, .int .i64 a0_1, .float .f64 a0_2, .int .i64 a0_3, .float .f64 a0_4, .int .i64 a0_5] 58 (0, 0)) (kp BK544.out)) : gb544 ≠ gb545)); have n6_ := Aside0.mk ((by rw [hg]; exact Nat.ne_of_gt (blk_lt (g := gb544) (o := .cells #[.int .i64 a0_0, .int .i64 a0_1, .float .f64 a0_2, .int .i64 a0_3, .float .f64 a0_4, .int .i64 a0_5] 58 (0, 0)) (kp BK544.out)) : gb545 ≠ gb544)); clear BK544; clear HB; have BK544 := n0_; have HB := n1_; have BK545 := n2_; have GW545 := n3_; have GE545 := n4_; have NB544_545 := n5_; have NB545_544 := n6_; clear n0_ n1_ n2_ n3_ n4_ n5_ n6_; clear hb hbox hg; have hnb12 := NB544_545.out; have hnc12 := NB545_544.out; obtain ⟨hcz13_0, hcz13_1, hcz13_2, hcz13_3, hcz13_4, hcz13_5, hfz13_0, hfz13_1, hfz13_2, hfz13_3, hfz13_4, hfz13_5⟩ := cz6 BK544.out; obtain ⟨hcz14_0, hcz14_1, hcz14_2, hcz14_3, hcz14_4, hcz14_5, hfz14_0, hfz14_1, hfz14_2, hfz14_3, hfz14_4, hfz14_5⟩ := cz6 BK545.out))
   go_ret
   exact ⟨fe, fb2 GE544 GE545⟩
  ·rw [if_neg c9] at H
   have c9b0 := bh_ c9
   have c9b1 := bi_ c9
   obtain rfl := oj_ H
   go_enter Try.func38, Try.ntmps38
   go_wp2_with (first | ((with_reducible refine gate_dst (N := 2) rfl ?_); refine bx_ (N := 2) #[.int .i64 a0_0, .int .i64 a0_1, .float .f64 a0_2, .int .i64 a0_3, .float .f64 a0_4, .int .i64 a0_5] 58 ⟨fb⟩ ?_; clear HB; intro gb544 w15 HB BK544 GE544; have GW544 := GE544) | ((with_reducible refine gate_dst (N := 3) rfl ?_); refine bz_ (N := 3) #[.int .i64 a1_0, .int .i64 a1_1, .float .f64 a1_2, .int .i64 a1_3, .float .f64 a1_4, .int .i64 a1_5] 58 ?_; intro gb545 hg w16 hbox hb; have n0_ := Aside0.mk (blk_below (g := gb544) (o := .cells #[.int .i64 a0_0, .int .i64 a0_1, .float .f64 a0_2, .int .i64 a0_3, .float .f64 a0_4, .int .i64 a0_5] 58 (0, 0)) (kp BK544.out) hb); have n1_ := Aside0.mk (below_step (fb1 GE544) hb); have n2_ := Aside0.mk (hbox); have n3_ := Aside0.mk ((by rw [hg]; exact (below_size (fb1 GE544)) : w.heap.size ≤ gb545)); have n4_ := Aside0.mk ((by rw [hg]; exact (below_size (fb1 GE544)) : w.heap.size ≤ gb545)); have n5_ := Aside0.mk ((by rw [hg]; exact Nat.ne_of_lt (blk_lt (g := gb544) (o := .cells #[.int .i64 a0_0, .int .i64 a0_1, .float .f64 a0_2, .int .i64 a0_3, .float .f64 a0_4, .int .i64 a0_5] 58 (0, 0)) (kp BK544.out)) : gb544 ≠ gb545)); have n6_ := Aside0.mk ((by rw [hg]; exact Nat.ne_of_gt (blk_lt (g := gb544) (o := .cells #[.int .i64 a0_0, .int .i64 a0_1, .float .f64 a0_2, .int .i64 a0_3, .float .f64 a0_4, .int .i64 a0_5] 58 (0, 0)) (kp BK544.out)) : gb545 ≠ gb544)); clear BK544; clear HB; have BK544 := n0_; have HB := n1_; have BK545 := n2_; have GW545 := n3_; have GE545 := n4_; have NB544_545 := n5_; have NB545_544 := n6_; clear n0_ n1_ n2_ n3_ n4_ n5_ n6_; clear hb hbox hg; have hnb17 := NB544_545.out; have hnc17 := NB545_544.out; obtain ⟨hcz18_0, hcz18_1, hcz18_2, hcz18_3, hcz18_4, hcz18_5, hfz18_0, hfz18_1, hfz18_2, hfz18_3, hfz18_4, hfz18_5⟩ := cz6 BK544.out; obtain ⟨hcz19_0, hcz19_1, hcz19_2, hcz19_3, hcz19_4, hcz19_5, hfz19_0, hfz19_1, hfz19_2, hfz19_3, hfz19_4, hfz19_5⟩ := cz6 BK545.out))
   go_ret
   exact ⟨fe, fb2 GE544 GE545⟩

end Go.Proofs.Ytjkhckbfkinheaa.GAa
