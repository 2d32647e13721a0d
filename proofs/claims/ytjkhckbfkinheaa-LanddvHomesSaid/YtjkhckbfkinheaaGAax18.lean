-- written by a program of this session (wip/pp): see NOTES.md
import Derived.Test.YtjkhckbfkinheaaGAax0
import Derived.Test.YtjkhckbfkinheaaGAax2
import Derived.Test.YtjkhckbfkinheaaGAax17
namespace Go.Proofs.Ytjkhckbfkinheaa.GAa
open Go.RowKit Go.Proofs.YtjkhckbfkinheaaW.PrintWords Go.Proofs.YtjkhckbfkinheaaW.PrintLast Go.Proofs.YtjkhckbfkinheaaW.PrintMore
attribute [local go_sem] max2_int min2_int max_two min_two max_three min_three max_four min_four   -- for this text's walks alone
attribute [local go_sem high] binOp_flss binOp_fgtr binOp_fleq binOp_fgeq binOp_feql binOp_fneq run_fadd run_fsub run_fmul run_fquo unary_fneg run_ftoint run_fofint run_feqIn ext_bits ext_frombits ext_trunc
set_option linter.unusedVariables false
set_option linter.unusedSimpArgs false

/-! ### beaconref06_number: function 120 -/
def beaconref06_number.f (k : Nat) (a0 : Int) : Option (Bool) := (beaconref02_CheckId.f k a0).bind fun t221 => (some (t221 == 0))
set_option maxHeartbeats 8000000 in
set_option maxRecDepth 100000 in
theorem beaconref06_number.calls (k : Nat) (a0 : Int) (r : Bool) (w : World) (h : beaconref06_number.f k a0 = some r) :
  Calls Try.prog 120 #[.int .i64 a0] w fun e w' => e = .returned (.bool r) ∧ Drawn0 w w' := by
 have H : ((beaconref02_CheckId.f k a0).bind fun t221 => (some (t221 == 0))) = some r := h
 clear h
 replace H := bs_ H; obtain ⟨t221, A2, H⟩ := H
 obtain rfl := oj_ H
 go_enter Try.func120, Try.ntmps120
 go_wp2_with (first | ((with_reducible refine gate_callee (f := 82) rfl ?_); refine gl_ (some 4) Try.func82 #[.int .i64 a0] ?_; (with_reducible refine (beaconref02_CheckId.calls k a0 t221 _ A2.out).mono ?_); rintro e w' ⟨rfl, ⟨nd, rfl⟩⟩; refine ⟨_, rfl, ?_⟩))
 go_ret
 exact ⟨fz, fd⟩

/-! ### beaconref06_zero: function 121 -/
def beaconref06_zero.f (a0 : Nat) : Option (Bool) := some ((a0 : Int) == 0)
set_option maxHeartbeats 8000000 in
set_option maxRecDepth 100000 in
theorem beaconref06_zero.calls (a0 : Nat) (r : Bool) (w : World) (h : beaconref06_zero.f a0 = some r) :
  Calls Try.prog 121 #[.float .f64 a0] w fun e w' => e = .returned (.bool r) ∧ Drawn0 w w' := by
 have H : (some ((a0 : Int) == 0)) = some r := h
 clear h
 obtain rfl := oj_ H
 go_enter Try.func121, Try.ntmps121
 go_wp2
 go_ret
 exact ⟨fz, fd⟩

/-! ### beaconref06_May: function 87 -/
mutual
def beaconref06_May.j0 : Nat → Bool → Int → Int → Nat → Nat → Int → Option (Bool)
 | 0, _, _, _, _, _, _ => none
 | k + 1, x22, x223000, x223001, x223002, x223003, x223004 => if x22 = true then (some false) else (if x223001 = 1 then (beaconref06_May.j1 k true x223000 x223001 x223002 x223003 x223004) else ((math_IsInf.f x223002 1).bind fun t226 => (beaconref06_May.j1 k t226 x223000 x223001 x223002 x223003 x223004)))
def beaconref06_May.j1 : Nat → Bool → Int → Int → Nat → Nat → Int → Option (Bool)
 | 0, _, _, _, _, _, _ => none
 | k + 1, x30, x223000, x223001, x223002, x223003, x223004 => if x30 = true then ((beaconref06_zero.f x223003).bind fun t227 => (if t227 = true then (some (x223004 == 0)) else (some false))) else ((math_IsInf.f x223003 1).bind fun t228 => (if t228 = true then (some (x223004 == 0)) else ((beaconref06_Far.f k x223003).bind fun t229 => (if t229 = true then ((beaconref06_number.f k x223004).bind fun t230 => (some t230)) else (some false)))))
end
def beaconref06_May.f (k : Nat) (a0_0 : Int) (a0_1 : Int) (a0_2 : Nat) (a0_3 : Nat) (a0_4 : Int) : Option (Bool) := (beaconref06_number.f k a0_0).bind fun t223 => (if t223 = true then (if a0_1 = 1 then ((beaconref06_Far.f k a0_2).bind fun t224 => (beaconref06_May.j0 k (!t224) a0_0 a0_1 a0_2 a0_3 a0_4)) else (if a0_1 = 2 then ((beaconref06_Far.f k a0_2).bind fun t225 => (beaconref06_May.j0 k (!t225) a0_0 a0_1 a0_2 a0_3 a0_4)) else (beaconref06_May.j0 k true a0_0 a0_1 a0_2 a0_3 a0_4))) else (beaconref06_May.j0 k true a0_0 a0_1 a0_2 a0_3 a0_4))
set_option maxHeartbeats 8000000 in
set_option maxRecDepth 100000 in
theorem beaconref06_May.calls (k : Nat) (a0_0 : Int) (a0_1 : Int) (a0_2 : Nat) (a0_3 : Nat) (a0_4 : Int) (r : Bool) (w : World) (h : beaconref06_May.f k a0_0 a0_1 a0_2 a0_3 a0_4 = some r) :
  Calls Try.prog 87 #[.agg #[.int .i64 a0_0, .int .i64 a0_1, .float .f64 a0_2, .float .f64 a0_3, .int .i64 a0_4]] w fun e w' => e = .returned (.bool r) ∧ Below w.heap.size w w' := by
 have hu56 := Try.underlying56
 have HB := Aside0.mk (Below.refl w.heap.size w)
 have H : ((beaconref06_number.f k a0_0).bind fun t223 => (if t223 = true then (if a0_1 = 1 then ((beaconref06_Far.f k a0_2).bind fun t224 => (beaconref06_May.j0 k (!t224) a0_0 a0_1 a0_2 a0_3 a0_4)) else (if a0_1 = 2 then ((beaconref06_Far.f k a0_2).bind fun t225 => (beaconref06_May.j0 k (!t225) a0_0 a0_1 a0_2 a0_3 a0_4)) else (beaconref06_May.j0 k true a0_0 a0_1 a0_2 a0_3 a0_4))) else (beaconref06_May.j0 k true a0_0 a0_1 a0_2 a0_3 a0_4))) = some r := h
 clear h
 have HC2 := Aside0.mk H
 clear H
 go_enter Try.func87, Try.ntmps87
 go_upto_region 1 with (first | ((with_reducible refine gate_dst (N := 1) rfl ?_); refine bx_ (N := 1) #[.int .i64 a0_0, .int .i64 a0_1, .float .f64 a0_2, .float .f64 a0_3, .int .i64 a0_4] 56 ⟨fb⟩ ?_; clear HB; intro gb222 w3 HB BK222 GE222; have GW222 := GE222))
 (try simp only [Act.put, qa, qb, qc])
 go_cut [22] (fun v22 wc => ∃ (kq : Nat) (x22_1 : Bool), v22 = .bool x22_1 ∧ Aside0 (beaconref06_May.j0 kq x22_1 a0_0 a0_1 a0_2 a0_3 a0_4 = some r) ∧ Aside0 (kq ≤ k) ∧ Aside0 (wc.heap[gb222]? = some (.cells #[.int .i64 a0_0, .int .i64 a0_1, .float .f64 a0_2, .float .f64 a0_3, .int .i64 a0_4] 56 (0, 0))) ∧ Aside0 (Below w.heap.size w wc))
 case first =>
  have H := HC2.out
  clear HC2
  replace H := bs_ H; obtain ⟨t223, A4, H⟩ := H
  by_cases c5 : t223 = true
  ·subst c5
   rw [if_pos rfl] at H
   by_cases c6 : a0_1 = 1
   ·rw [if_pos c6] at H
    have c6b0 := be_ c6
    have c6b1 := bg_ c6
    clear c6
    (first | rw [c6b0] | (simp only [i64_w, i32_w]; rw [c6b0]) | skip)
    replace H := bs_ H; obtain ⟨t224, A7, H⟩ := H
    have H' := Aside0.mk H
    clear H
    obtain ⟨hcz8_0, hcz8_1, hcz8_2, hcz8_3, hcz8_4, hfz8_0, hfz8_1, hfz8_2, hfz8_3, hfz8_4⟩ := cz5 BK222.out
    go_wp2_with (first | ((with_reducible refine gate_callee (f := 120) rfl ?_); refine gl_ (some 5) Try.func120 #[.int .i64 a0_0] ?_; (with_reducible refine (beaconref06_number.calls k a0_0 true _ A4.out).mono ?_); rintro e w' ⟨rfl, ⟨nd, rfl⟩⟩; refine ⟨_, rfl, ?_⟩) | (go_at_call 61; (with_reducible refine (beaconref06_Far.calls k a0_2 t224 _ A7.out).mono ?_); rintro e w' ⟨rfl, ⟨nd, rfl⟩⟩))
    go_meet
    case rel => exact ⟨_, (!t224), fz, H', ⟨fl⟩, ⟨kp BK222.out⟩, ⟨fb1 GE222⟩⟩
   ·rw [if_neg c6] at H
    have c6b0 := bh_ c6
    have c6b1 := bi_ c6
    (first | rw [c6b0] | (simp only [i64_w, i32_w]; rw [c6b0]) | skip)
    by_cases c9 : a0_1 = 2
    ·rw [if_pos c9] at H
     have c9b0 := be_ c9
     have c9b1 := bg_ c9
     clear c9
     replace H := bs_ H; obtain ⟨t225, A10, H⟩ := H
     have H' := Aside0.mk H
     clear H
     obtain ⟨hcz11_0, hcz11_1, hcz11_2, hcz11_3, hcz11_4, hfz11_0, hfz11_1, hfz11_2, hfz11_3, hfz11_4⟩ := cz5 BK222.out
     go_wp2_with (first | ((with_reducible refine gate_callee (f := 120) rfl ?_); refine gl_ (some 5) Try.func120 #[.int .i64 a0_0] ?_; (with_reducible refine (beaconref06_number.calls k a0_0 true _ A4.out).mono ?_); rintro e w' ⟨rfl, ⟨nd, rfl⟩⟩; refine ⟨_, rfl, ?_⟩) | (go_at_call 61; (with_reducible refine (beaconref06_Far.calls k a0_2 t225 _ A10.out).mono ?_); rintro e w' ⟨rfl, ⟨nd, rfl⟩⟩))
     go_meet
     case rel => exact ⟨_, (!t225), fz, H', ⟨fl⟩, ⟨kp BK222.out⟩, ⟨fb1 GE222⟩⟩
    ·rw [if_neg c9] at H
     have c9b0 := bh_ c9
     have c9b1 := bi_ c9
     have H' := Aside0.mk H
     clear H
     obtain ⟨hcz12_0, hcz12_1, hcz12_2, hcz12_3, hcz12_4, hfz12_0, hfz12_1, hfz12_2, hfz12_3, hfz12_4⟩ := cz5 BK222.out
     go_wp2_with (first | ((with_reducible refine gate_callee (f := 120) rfl ?_); refine gl_ (some 5) Try.func120 #[.int .i64 a0_0] ?_; (with_reducible refine (beaconref06_number.calls k a0_0 true _ A4.out).mono ?_); rintro e w' ⟨rfl, ⟨nd, rfl⟩⟩; refine ⟨_, rfl, ?_⟩))
     go_meet
     case rel => exact ⟨_, (true), fz, H', ⟨fl⟩, ⟨kp BK222.out⟩, ⟨fb1 GE222⟩⟩
  ·obtain rfl := bf_ c5
   rw [if_neg nf_] at H
   have H' := Aside0.mk H
   clear H
   obtain ⟨hcz13_0, hcz13_1, hcz13_2, hcz13_3, hcz13_4, hfz13_0, hfz13_1, hfz13_2, hfz13_3, hfz13_4⟩ := cz5 BK222.out
   go_wp2_with (first | ((with_reducible refine gate_callee (f := 120) rfl ?_); refine gl_ (some 5) Try.func120 #[.int .i64 a0_0] ?_; (with_reducible refine (beaconref06_number.calls k a0_0 false _ A4.out).mono ?_); rintro e w' ⟨rfl, ⟨nd, rfl⟩⟩; refine ⟨_, rfl, ?_⟩))
   go_meet
   case rel => exact ⟨_, (true), fz, H', ⟨fl⟩, ⟨kp BK222.out⟩, ⟨fb1 GE222⟩⟩
 case rest =>
  clear HC2
  obtain ⟨kq, x22_1, rfl, HA, HJ1, BK222, HB⟩ := hcut
  cases kq with
  | zero => exact absurd HA.out (by simp [beaconref06_May.j0])
  | succ kj1 =>
   have H := HA.out
   clear HA
   simp only [beaconref06_May.j0] at H
   by_cases c14 : x22_1 = true
   ·subst c14
    rw [if_pos rfl] at H
    obtain rfl := oj_ H
    go_wp2
    go_ret
    exact ⟨fe, fb1 GE222⟩
   ·obtain rfl := bf_ c14
    rw [if_neg nf_] at H
    have HC15 := Aside0.mk H
    clear H
    go_upto_region 3 with (fail)
    go_cut [30] (fun v30 wc => ∃ (kq : Nat) (x30_14 : Bool), v30 = .bool x30_14 ∧ Aside0 (beaconref06_May.j1 kq x30_14 a0_0 a0_1 a0_2 a0_3 a0_4 = some r) ∧ Aside0 (kq ≤ kj1) ∧ Aside0 (wc.heap[gb222]? = some (.cells #[.int .i64 a0_0, .int .i64 a0_1, .float .f64 a0_2, .float .f64 a0_3, .int .i64 a0_4] 56 (0, 0))) ∧ Aside0 (Below w.heap.size w wc))
    case first =>
     have H := HC15.out
     clear HC15
     by_cases c16 : a0_1 = 1
     ·rw [if_pos c16] at H
      have c16b0 := be_ c16
      have c16b1 := bg_ c16
      clear c16
      (first | rw [c16b0] | (simp only [i64_w, i32_w]; rw [c16b0]) | skip)
      have H' := Aside0.mk H
      clear H
      obtain ⟨hcz17_0, hcz17_1, hcz17_2, hcz17_3, hcz17_4, hfz17_0, hfz17_1, hfz17_2, hfz17_3, hfz17_4⟩ := cz5 BK222.out
      go_wp2
      go_meet
      case rel => exact ⟨_, (true), fz, H', ⟨by have := HJ1.out; exact fl⟩, ⟨kp BK222.out⟩, ⟨fb1 GE222⟩⟩
     ·rw [if_neg c16] at H
      have c16b0 := bh_ c16
      have c16b1 := bi_ c16
      (first | rw [c16b0] | (simp only [i64_w, i32_w]; rw [c16b0]) | skip)
      replace H := bs_ H; obtain ⟨t226, A18, H⟩ := H
      have H' := Aside0.mk H
      clear H
      obtain ⟨hcz19_0, hcz19_1, hcz19_2, hcz19_3, hcz19_4, hfz19_0, hfz19_1, hfz19_2, hfz19_3, hfz19_4⟩ := cz5 BK222.out
      go_wp2_with (first | (go_at_call 62; (with_reducible refine (math_IsInf.calls a0_2 1 t226 _ A18.out).mono ?_); rintro e w' ⟨rfl, ⟨nd, rfl⟩⟩))
      go_meet
      case rel => exact ⟨_, (t226), fz, H', ⟨by have := HJ1.out; exact fl⟩, ⟨kp BK222.out⟩, ⟨fb1 GE222⟩⟩
    case rest =>
     clear HC15
     (try clear c14)
     obtain ⟨kq, x30_14, rfl, HA, HJ14, BK222, HB⟩ := hcut
     cases kq with
     | zero => exact absurd HA.out (by simp [beaconref06_May.j1])
     | succ kj14 =>
      have H := HA.out
      clear HA
      simp only [beaconref06_May.j1] at H
      by_cases c20 : x30_14 = true
      ·subst c20
       rw [if_pos rfl] at H
       replace H := bs_ H; obtain ⟨t227, A21, H⟩ := H
       by_cases c22 : t227 = true
       ·subst c22
        rw [if_pos rfl] at H
        obtain rfl := oj_ H
        obtain ⟨hcz23_0, hcz23_1, hcz23_2, hcz23_3, hcz23_4, hfz23_0, hfz23_1, hfz23_2, hfz23_3, hfz23_4⟩ := cz5 BK222.out
        go_wp2_with (first | ((with_reducible refine gate_callee (f := 121) rfl ?_); refine gl_ (some 33) Try.func121 #[.float .f64 a0_3] ?_; (with_reducible refine (beaconref06_zero.calls a0_3 true _ A21.out).mono ?_); rintro e w' ⟨rfl, ⟨nd, rfl⟩⟩; refine ⟨_, rfl, ?_⟩))
        go_ret
        exact ⟨fe, fb1 GE222⟩
       ·obtain rfl := bf_ c22
        rw [if_neg nf_] at H
        obtain rfl := oj_ H
        obtain ⟨hcz24_0, hcz24_1, hcz24_2, hcz24_3, hcz24_4, hfz24_0, hfz24_1, hfz24_2, hfz24_3, hfz24_4⟩ := cz5 BK222.out
        go_wp2_with (first | ((with_reducible refine gate_callee (f := 121) rfl ?_); refine gl_ (some 33) Try.func121 #[.float .f64 a0_3] ?_; (with_reducible refine (beaconref06_zero.calls a0_3 false _ A21.out).mono ?_); rintro e w' ⟨rfl, ⟨nd, rfl⟩⟩; refine ⟨_, rfl, ?_⟩))
        go_ret
        exact ⟨fe, fb1 GE222⟩
      ·obtain rfl := bf_ c20
       rw [if_neg nf_] at H
       replace H := bs_ H; obtain ⟨t228, A25, H⟩ := H
       by_cases c26 : t228 = true
       ·subst c26
        rw [if_pos rfl] at H
        obtain rfl := oj_ H
        obtain ⟨hcz27_0, hcz27_1, hcz27_2, hcz27_3, hcz27_4, hfz27_0, hfz27_1, hfz27_2, hfz27_3, hfz27_4⟩ := cz5 BK222.out
        go_wp2_with (first | ((with_reducible refine gate_callee (f := 62) rfl ?_); refine gl_ (some 41) Try.func62 #[.float .f64 a0_3, .int .i64 1] ?_; (with_reducible refine (math_IsInf.calls a0_3 1 true _ A25.out).mono ?_); rintro e w' ⟨rfl, ⟨nd, rfl⟩⟩; refine ⟨_, rfl, ?_⟩))
        go_ret
        exact ⟨fe, fb1 GE222⟩
       ·obtain rfl := bf_ c26
        rw [if_neg nf_] at H
        replace H := bs_ H; obtain ⟨t229, A28, H⟩ := H
        by_cases c29 : t229 = true
        ·subst c29
         rw [if_pos rfl] at H
         replace H := bs_ H; obtain ⟨t230, A30, H⟩ := H
         obtain rfl := oj_ H
         obtain ⟨hcz31_0, hcz31_1, hcz31_2, hcz31_3, hcz31_4, hfz31_0, hfz31_1, hfz31_2, hfz31_3, hfz31_4⟩ := cz5 BK222.out
         go_wp2_with (first | ((with_reducible refine gate_callee (f := 62) rfl ?_); refine gl_ (some 41) Try.func62 #[.float .f64 a0_3, .int .i64 1] ?_; (with_reducible refine (math_IsInf.calls a0_3 1 false _ A25.out).mono ?_); rintro e w' ⟨rfl, ⟨nd, rfl⟩⟩; refine ⟨_, rfl, ?_⟩) | ((with_reducible refine gate_callee (f := 61) rfl ?_); refine gl_ (some 47) Try.func61 #[.float .f64 a0_3] ?_; (with_reducible refine (beaconref06_Far.calls kj14 a0_3 true _ A28.out).mono ?_); rintro e w' ⟨rfl, ⟨nd, rfl⟩⟩; refine ⟨_, rfl, ?_⟩) | (go_at_call 120; (with_reducible refine (beaconref06_number.calls kj14 a0_4 t230 _ A30.out).mono ?_); rintro e w' ⟨rfl, ⟨nd, rfl⟩⟩))
         go_ret
         exact ⟨fe, fb1 GE222⟩
        ·obtain rfl := bf_ c29
         rw [if_neg nf_] at H
         obtain rfl := oj_ H
         obtain ⟨hcz32_0, hcz32_1, hcz32_2, hcz32_3, hcz32_4, hfz32_0, hfz32_1, hfz32_2, hfz32_3, hfz32_4⟩ := cz5 BK222.out
         go_wp2_with (first | ((with_reducible refine gate_callee (f := 62) rfl ?_); refine gl_ (some 41) Try.func62 #[.float .f64 a0_3, .int .i64 1] ?_; (with_reducible refine (math_IsInf.calls a0_3 1 false _ A25.out).mono ?_); rintro e w' ⟨rfl, ⟨nd, rfl⟩⟩; refine ⟨_, rfl, ?_⟩) | ((with_reducible refine gate_callee (f := 61) rfl ?_); refine gl_ (some 47) Try.func61 #[.float .f64 a0_3] ?_; (with_reducible refine (beaconref06_Far.calls kj14 a0_3 false _ A28.out).mono ?_); rintro e w' ⟨rfl, ⟨nd, rfl⟩⟩; refine ⟨_, rfl, ?_⟩))
         go_ret
         exact ⟨fe, fb1 GE222⟩

end Go.Proofs.Ytjkhckbfkinheaa.GAa
