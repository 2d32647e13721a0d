-- written by a program of this session (wip/pp): see NOTES.md
import Derived.Test.YtjkhckbfkinheaaGAax0
import Derived.Test.YtjkhckbfkinheaaGAax2
import Derived.Test.YtjkhckbfkinheaaGAax3
import Derived.Test.YtjkhckbfkinheaaGAax10
namespace Go.Proofs.Ytjkhckbfkinheaa.GAa
open Go.RowKit Go.Proofs.YtjkhckbfkinheaaW.PrintWords Go.Proofs.YtjkhckbfkinheaaW.PrintLast Go.Proofs.YtjkhckbfkinheaaW.PrintMore
attribute [local go_sem] max2_int min2_int max_two min_two max_three min_three max_four min_four   -- for this text's walks alone
attribute [local go_sem high] binOp_flss binOp_fgtr binOp_fleq binOp_fgeq binOp_feql binOp_fneq run_fadd run_fsub run_fmul run_fquo unary_fneg run_ftoint run_fofint run_feqIn ext_bits ext_frombits ext_trunc
set_option linter.unusedVariables false
set_option linter.unusedSimpArgs false

/-! ### metric_Limit: function 32 -/
def metric_Limit.f (a0 : Nat) : Option (Int) := (metric_within.f a0 4742290407621132288).bind fun t177 => (some t177)
set_option maxHeartbeats 8000000 in
set_option maxRecDepth 100000 in
theorem metric_Limit.calls (a0 : Nat) (r : Int) (w : World) (h : metric_Limit.f a0 = some r) :
  Calls Try.prog 32 #[.float .f64 a0] w fun e w' => e = .returned (.int .i64 r) ∧ Drawn0 w w' := by
 have H : ((metric_within.f a0 4742290407621132288).bind fun t177 => (some t177)) = some r := h
 clear h
 replace H := bs_ H; obtain ⟨t177, A2, H⟩ := H
 obtain rfl := oj_ H
 go_enter Try.func32, Try.ntmps32
 go_wp2_with (first | ((with_reducible refine gate_callee (f := 68) rfl ?_); refine gl_ (some 4) Try.func68 #[.float .f64 a0, .float .f64 4742290407621132288] ?_; (with_reducible refine (metric_within.calls a0 4742290407621132288 t177 _ A2.out).mono ?_); rintro e w' ⟨rfl, ⟨nd, rfl⟩⟩; refine ⟨_, rfl, ?_⟩))
 go_ret
 exact ⟨fz, fd⟩

/-! ### metric_Add: function 41 -/
def metric_Add.f (k : Nat) (a0 : Nat) (a1 : Nat) (a2 : Nat) : Option (Nat) := if (fAddOk a0 a1) = true then ((math_IsNaN.f (fAdd a0 a1)).bind fun t178 => (if t178 = true then (some 9221120237041090560) else (if ((fLt (fAdd a0 a1) a2) = true) then (if (fEq (fAdd a0 a1) 0) = true then (some 0) else (some (fAdd a0 a1))) else ((math_Inf.f k 1).bind fun t179 => (some t179))))) else (none)
set_option maxHeartbeats 8000000 in
set_option maxRecDepth 100000 in
theorem metric_Add.calls (k : Nat) (a0 : Nat) (a1 : Nat) (a2 : Nat) (r : Nat) (w : World) (h : metric_Add.f k a0 a1 a2 = some r) :
  Calls Try.prog 41 #[.float .f64 a0, .float .f64 a1, .float .f64 a2] w fun e w' => e = .returned (.float .f64 r) ∧ Drawn0 w w' := by
 have H : (if (fAddOk a0 a1) = true then ((math_IsNaN.f (fAdd a0 a1)).bind fun t178 => (if t178 = true then (some 9221120237041090560) else (if ((fLt (fAdd a0 a1) a2) = true) then (if (fEq (fAdd a0 a1) 0) = true then (some 0) else (some (fAdd a0 a1))) else ((math_Inf.f k 1).bind fun t179 => (some t179))))) else (none)) = some r := h
 clear h
 by_cases c4 : (fAddOk a0 a1) = true
 ·rw [if_pos c4] at H
  have c4b0 := eq_true c4
  have c4b1 := decide_eq_true c4
  clear c4
  replace H := bs_ H; obtain ⟨t178, A5, H⟩ := H
  by_cases c6 : t178 = true
  ·subst c6
   rw [if_pos rfl] at H
   obtain rfl := oj_ H
   go_enter Try.func41, Try.ntmps41
   go_wp2_with (first | ((with_reducible refine gate_callee (f := 73) rfl ?_); refine gl_ (some 13) Try.func73 #[.float .f64 (fAdd a0 a1)] ?_; (with_reducible refine (math_IsNaN.calls (fAdd a0 a1) true _ A5.out).mono ?_); rintro e w' ⟨rfl, ⟨nd, rfl⟩⟩; refine ⟨_, rfl, ?_⟩))
   go_ret
   exact ⟨fz, fd⟩
  ·obtain rfl := bf_ c6
   rw [if_neg nf_] at H
   by_cases c7 : ((fLt (fAdd a0 a1) a2) = true)
   ·rw [if_pos c7] at H
    have c7b0 : (fLt (fAdd a0 a1) a2) = true := c7
    clear c7
    by_cases c8 : (fEq (fAdd a0 a1) 0) = true
    ·rw [if_pos c8] at H
     have c8b0 : (fEq (fAdd a0 a1) 0) = true := c8
     clear c8
     obtain rfl := oj_ H
     go_enter Try.func41, Try.ntmps41
     go_wp2_with (first | ((with_reducible refine gate_callee (f := 73) rfl ?_); refine gl_ (some 13) Try.func73 #[.float .f64 (fAdd a0 a1)] ?_; (with_reducible refine (math_IsNaN.calls (fAdd a0 a1) false _ A5.out).mono ?_); rintro e w' ⟨rfl, ⟨nd, rfl⟩⟩; refine ⟨_, rfl, ?_⟩))
     go_ret
     exact ⟨fz, fd⟩
    ·rw [if_neg c8] at H
     have c8b0 := bf_ c8
     clear c8
     obtain rfl := oj_ H
     go_enter Try.func41, Try.ntmps41
     go_wp2_with (first | ((with_reducible refine gate_callee (f := 73) rfl ?_); refine gl_ (some 13) Try.func73 #[.float .f64 (fAdd a0 a1)] ?_; (with_reducible refine (math_IsNaN.calls (fAdd a0 a1) false _ A5.out).mono ?_); rintro e w' ⟨rfl, ⟨nd, rfl⟩⟩; refine ⟨_, rfl, ?_⟩))
     go_ret
     exact ⟨fz, fd⟩
   ·rw [if_neg c7] at H
    have c7b0 := bf_ c7
    clear c7
    replace H := bs_ H; obtain ⟨t179, A9, H⟩ := H
    obtain rfl := oj_ H
    go_enter Try.func41, Try.ntmps41
    go_wp2_with (first | ((with_reducible refine gate_callee (f := 73) rfl ?_); refine gl_ (some 13) Try.func73 #[.float .f64 (fAdd a0 a1)] ?_; (with_reducible refine (math_IsNaN.calls (fAdd a0 a1) false _ A5.out).mono ?_); rintro e w' ⟨rfl, ⟨nd, rfl⟩⟩; refine ⟨_, rfl, ?_⟩) | ((with_reducible refine gate_callee (f := 40) rfl ?_); refine gl_ (some 20) Try.func40 #[.int .i64 1] ?_; (with_reducible refine (math_Inf.calls k 1 t179 _ A9.out).mono ?_); rintro e w' ⟨rfl, ⟨nd, rfl⟩⟩; refine ⟨_, rfl, ?_⟩))
    go_ret
    exact ⟨fz, fd⟩
 ·rw [if_neg c4] at H
  exact absurd H (by simp)

end Go.Proofs.Ytjkhckbfkinheaa.GAa
