-- written by a program of this session (wip/pp): see NOTES.md
import Derived.Test.YtjkhckbfkinheaaGAax0
import Derived.Test.YtjkhckbfkinheaaGAax2
namespace Go.Proofs.Ytjkhckbfkinheaa.GAa
open Go.RowKit Go.Proofs.YtjkhckbfkinheaaW.PrintWords Go.Proofs.YtjkhckbfkinheaaW.PrintLast Go.Proofs.YtjkhckbfkinheaaW.PrintMore
attribute [local go_sem] max2_int min2_int max_two min_two max_three min_three max_four min_four   -- for this text's walks alone
attribute [local go_sem high] binOp_flss binOp_fgtr binOp_fleq binOp_fgeq binOp_feql binOp_fneq run_fadd run_fsub run_fmul run_fquo unary_fneg run_ftoint run_fofint run_feqIn ext_bits ext_frombits ext_trunc
set_option linter.unusedVariables false
set_option linter.unusedSimpArgs false

/-! ### beaconref15_Entries: function 27 -/

/-! ### beaconref02_CheckId: function 82 -/
def beaconref02_CheckId.j0 : Nat → Bool → Option (Int)
 | 0, _ => none
 | k + 1, x8 => if x8 = true then (some 20) else (some 0)
def beaconref02_CheckId.f (k : Nat) (a0 : Int) : Option (Int) := if a0 < 1 then (beaconref02_CheckId.j0 k true) else (beaconref02_CheckId.j0 k (decide (a0 > 2147483647)))
set_option maxHeartbeats 8000000 in
set_option maxRecDepth 100000 in
theorem beaconref02_CheckId.calls (k : Nat) (a0 : Int) (r : Int) (w : World) (h : beaconref02_CheckId.f k a0 = some r) :
  Calls Try.prog 82 #[.int .i64 a0] w fun e w' => e = .returned (.int .i64 r) ∧ Drawn0 w w' := by
 have H : (if a0 < 1 then (beaconref02_CheckId.j0 k true) else (beaconref02_CheckId.j0 k (decide (a0 > 2147483647)))) = some r := h
 clear h
 have HC2 := Aside0.mk H
 clear H
 go_enter Try.func82, Try.ntmps82
 go_upto_region 1 with (fail)
 go_cut [8] (fun v8 wc => ∃ (kq : Nat) (x8_1 : Bool), v8 = .bool x8_1 ∧ Aside0 (beaconref02_CheckId.j0 kq x8_1 = some r) ∧ Aside0 (kq ≤ k) ∧ Drawn0 w wc)
 case first =>
  have H := HC2.out
  clear HC2
  by_cases c3 : a0 < 1
  ·rw [if_pos c3] at H
   have c3b0 := decide_eq_true c3
   clear c3
   (first | rw [c3b0] | (simp only [i64_w, i32_w]; rw [c3b0]) | skip)
   have H' := Aside0.mk H
   clear H
   go_wp2
   go_meet
   case rel => exact ⟨_, (true), fz, H', ⟨fl⟩, fd⟩
  ·rw [if_neg c3] at H
   have c3b0 := decide_eq_false c3
   clear c3
   (first | rw [c3b0] | (simp only [i64_w, i32_w]; rw [c3b0]) | skip)
   have H' := Aside0.mk H
   clear H
   go_wp2
   go_meet
   case rel => exact ⟨_, (decide (a0 > 2147483647)), fz, H', ⟨fl⟩, fd⟩
 case rest =>
  clear HC2
  obtain ⟨kq, x8_1, rfl, HA, HJ1, ⟨mc1, rfl⟩⟩ := hcut
  cases kq with
  | zero => exact absurd HA.out (by simp [beaconref02_CheckId.j0])
  | succ kj1 =>
   have H := HA.out
   clear HA
   simp only [beaconref02_CheckId.j0] at H
   by_cases c4 : x8_1 = true
   ·subst c4
    rw [if_pos rfl] at H
    obtain rfl := oj_ H
    go_wp2
    go_ret
    exact ⟨fz, fd⟩
   ·obtain rfl := bf_ c4
    rw [if_neg nf_] at H
    obtain rfl := oj_ H
    go_wp2
    go_ret
    exact ⟨fz, fd⟩

/-! ### beaconref15_number: function 52 -/

/-! ### beaconref15_Far: function 67 -/

/-! ### beaconref06_Far: function 61 -/
def beaconref06_Far.j0 : Nat → Nat → Bool → Option (Bool)
 | 0, _, _ => none
 | k + 1, x0, x9 => if x9 = true then (some true) else (if (fLt 0 x0) = true then (if (fLt x0 4742290407621132288) = true then (if (fMulOk x0 4616189618054758400) = true then ((math_Trunc.f (fMul x0 4616189618054758400)).bind fun t220 => (some (fEq (fMul x0 4616189618054758400) t220))) else (none)) else (some false)) else (some false))
def beaconref06_Far.f (k : Nat) (a0 : Nat) : Option (Bool) := (math_IsInf.f a0 1).bind fun t219 => (if t219 = true then (beaconref06_Far.j0 k a0 true) else (beaconref06_Far.j0 k a0 ((a0 : Int) == 0)))
set_option maxHeartbeats 8000000 in
set_option maxRecDepth 100000 in
theorem beaconref06_Far.calls (k : Nat) (a0 : Nat) (r : Bool) (w : World) (h : beaconref06_Far.f k a0 = some r) :
  Calls Try.prog 61 #[.float .f64 a0] w fun e w' => e = .returned (.bool r) ∧ Drawn0 w w' := by
 have H : ((math_IsInf.f a0 1).bind fun t219 => (if t219 = true then (beaconref06_Far.j0 k a0 true) else (beaconref06_Far.j0 k a0 ((a0 : Int) == 0)))) = some r := h
 clear h
 have HC2 := Aside0.mk H
 clear H
 go_enter Try.func61, Try.ntmps61
 go_upto_region 1 with (fail)
 go_cut [9] (fun v9 wc => ∃ (kq : Nat) (x9_1 : Bool), v9 = .bool x9_1 ∧ Aside0 (beaconref06_Far.j0 kq a0 x9_1 = some r) ∧ Aside0 (kq ≤ k) ∧ Drawn0 w wc)
 case first =>
  have H := HC2.out
  clear HC2
  replace H := bs_ H; obtain ⟨t219, A3, H⟩ := H
  by_cases c4 : t219 = true
  ·subst c4
   rw [if_pos rfl] at H
   have H' := Aside0.mk H
   clear H
   go_wp2_with (first | ((with_reducible refine gate_callee (f := 62) rfl ?_); refine gl_ (some 4) Try.func62 #[.float .f64 a0, .int .i64 1] ?_; (with_reducible refine (math_IsInf.calls a0 1 true _ A3.out).mono ?_); rintro e w' ⟨rfl, ⟨nd, rfl⟩⟩; refine ⟨_, rfl, ?_⟩))
   go_meet
   case rel => exact ⟨_, (true), fz, H', ⟨fl⟩, fd⟩
  ·obtain rfl := bf_ c4
   rw [if_neg nf_] at H
   have H' := Aside0.mk H
   clear H
   go_wp2_with (first | ((with_reducible refine gate_callee (f := 62) rfl ?_); refine gl_ (some 4) Try.func62 #[.float .f64 a0, .int .i64 1] ?_; (with_reducible refine (math_IsInf.calls a0 1 false _ A3.out).mono ?_); rintro e w' ⟨rfl, ⟨nd, rfl⟩⟩; refine ⟨_, rfl, ?_⟩))
   go_meet
   case rel => exact ⟨_, (((a0 : Int) == 0)), fz, H', ⟨fl⟩, fd⟩
 case rest =>
  clear HC2
  obtain ⟨kq, x9_1, rfl, HA, HJ1, ⟨mc1, rfl⟩⟩ := hcut
  cases kq with
  | zero => exact absurd HA.out (by simp [beaconref06_Far.j0])
  | succ kj1 =>
   have H := HA.out
   clear HA
   simp only [beaconref06_Far.j0] at H
   by_cases c5 : x9_1 = true
   ·subst c5
    rw [if_pos rfl] at H
    obtain rfl := oj_ H
    go_wp2
    go_ret
    exact ⟨fz, fd⟩
   ·obtain rfl := bf_ c5
    rw [if_neg nf_] at H
    by_cases c6 : (fLt 0 a0) = true
    ·rw [if_pos c6] at H
     have c6b0 : (fLt 0 a0) = true := c6
     clear c6
     by_cases c7 : (fLt a0 4742290407621132288) = true
     ·rw [if_pos c7] at H
      have c7b0 : (fLt a0 4742290407621132288) = true := c7
      clear c7
      by_cases c8 : (fMulOk a0 4616189618054758400) = true
      ·rw [if_pos c8] at H
       have c8b0 := eq_true c8
       have c8b1 := decide_eq_true c8
       clear c8
       have c9b0 := eq_true (of_decide_eq_true (by first | (with_reducible assumption) | assumption) : (fMulOk a0 4616189618054758400) = true)
       replace H := bs_ H; obtain ⟨t220, A10, H⟩ := H
       obtain rfl := oj_ H
       go_wp2_with (first | (go_at_call 85; (with_reducible refine (math_Trunc.calls (fMul a0 4616189618054758400) t220 _ A10.out).mono ?_); rintro e w' ⟨rfl, ⟨nd, rfl⟩⟩))
       go_ret
       exact ⟨fz, fd⟩
      ·rw [if_neg c8] at H
       exact absurd H (by simp)
     ·rw [if_neg c7] at H
      have c7b0 := bf_ c7
      clear c7
      obtain rfl := oj_ H
      go_wp2
      go_ret
      exact ⟨fz, fd⟩
    ·rw [if_neg c6] at H
     have c6b0 := bf_ c6
     clear c6
     obtain rfl := oj_ H
     go_wp2
     go_ret
     exact ⟨fz, fd⟩

end Go.Proofs.Ytjkhckbfkinheaa.GAa
