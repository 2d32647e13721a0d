-- written by a program of this session (wip/pp): see NOTES.md
import Derived.Test.YtjkhckbfkinheaaGLtx0
import Derived.Test.YtjkhckbfkinheaaGLtx2
import Derived.Test.YtjkhckbfkinheaaGLtx13
namespace Go.Proofs.Ytjkhckbfkinheaa.GLt
open Go.RowKit Go.Proofs.YtjkhckbfkinheaaW.PrintWords Go.Proofs.YtjkhckbfkinheaaW.PrintLast Go.Proofs.YtjkhckbfkinheaaW.PrintMore
attribute [local go_sem] max2_int min2_int max_two min_two max_three min_three max_four min_four   -- for this text's walks alone
attribute [local go_sem high] binOp_flss binOp_fgtr binOp_fleq binOp_fgeq binOp_feql binOp_fneq run_fadd run_fsub run_fmul run_fquo unary_fneg run_ftoint run_fofint run_feqIn ext_bits ext_frombits ext_trunc
set_option linter.unusedVariables false
set_option linter.unusedSimpArgs false

-- GIVEN: function 57 (sort_News)

/-! ### metric_Dist: function 122 -/
def metric_Dist.f (a0 : Nat) (a1 : Nat) : Option (Int) := (metric_Limit.f a1).bind fun t206 => (if t206 = 0 then ((math_IsNaN.f a0).bind fun t207 => (if t207 = true then (some 10) else ((math_Signbit.f a0).bind fun t208 => (if t208 = true then (some 12) else ((math_IsInf.f a0 1).bind fun t209 => (if t209 = true then (some 0) else (if ((fLt a0 a1) = true) then ((metric_quarter.f a0).bind fun t210 => (if t210 = true then (some 0) else (some 15))) else (some 16)))))))) else (some t206))
set_option maxHeartbeats 8000000 in
set_option maxRecDepth 100000 in
theorem metric_Dist.calls (a0 : Nat) (a1 : Nat) (r : Int) (w : World) (h : metric_Dist.f a0 a1 = some r) :
  Calls Try.prog 122 #[.float .f64 a0, .float .f64 a1] w fun e w' => e = .returned (.int .i64 r) ∧ Drawn0 w w' := by
 have H : ((metric_Limit.f a1).bind fun t206 => (if t206 = 0 then ((math_IsNaN.f a0).bind fun t207 => (if t207 = true then (some 10) else ((math_Signbit.f a0).bind fun t208 => (if t208 = true then (some 12) else ((math_IsInf.f a0 1).bind fun t209 => (if t209 = true then (some 0) else (if ((fLt a0 a1) = true) then ((metric_quarter.f a0).bind fun t210 => (if t210 = true then (some 0) else (some 15))) else (some 16)))))))) else (some t206))) = some r := h
 clear h
 replace H := bs_ H; obtain ⟨t206, A3, H⟩ := H
 by_cases c4 : t206 = 0
 ·rw [if_pos c4] at H
  have c4b0 := be_ c4
  have c4b1 := bg_ c4
  clear c4
  replace H := bs_ H; obtain ⟨t207, A5, H⟩ := H
  by_cases c6 : t207 = true
  ·subst c6
   rw [if_pos rfl] at H
   obtain rfl := oj_ H
   go_enter Try.func122, Try.ntmps122
   go_wp2_with (first | ((with_reducible refine gate_callee (f := 32) rfl ?_); refine gl_ (some 7) Try.func32 #[.float .f64 a1] ?_; (with_reducible refine (metric_Limit.calls a1 t206 _ A3.out).mono ?_); rintro e w' ⟨rfl, ⟨nd, rfl⟩⟩; refine ⟨_, rfl, ?_⟩) | ((with_reducible refine gate_callee (f := 73) rfl ?_); refine gl_ (some 13) Try.func73 #[.float .f64 a0] ?_; (with_reducible refine (math_IsNaN.calls a0 true _ A5.out).mono ?_); rintro e w' ⟨rfl, ⟨nd, rfl⟩⟩; refine ⟨_, rfl, ?_⟩))
   go_ret
   exact ⟨fz, fd⟩
  ·obtain rfl := bf_ c6
   rw [if_neg nf_] at H
   replace H := bs_ H; obtain ⟨t208, A7, H⟩ := H
   by_cases c8 : t208 = true
   ·subst c8
    rw [if_pos rfl] at H
    obtain rfl := oj_ H
    go_enter Try.func122, Try.ntmps122
    go_wp2_with (first | ((with_reducible refine gate_callee (f := 32) rfl ?_); refine gl_ (some 7) Try.func32 #[.float .f64 a1] ?_; (with_reducible refine (metric_Limit.calls a1 t206 _ A3.out).mono ?_); rintro e w' ⟨rfl, ⟨nd, rfl⟩⟩; refine ⟨_, rfl, ?_⟩) | ((with_reducible refine gate_callee (f := 73) rfl ?_); refine gl_ (some 13) Try.func73 #[.float .f64 a0] ?_; (with_reducible refine (math_IsNaN.calls a0 false _ A5.out).mono ?_); rintro e w' ⟨rfl, ⟨nd, rfl⟩⟩; refine ⟨_, rfl, ?_⟩) | ((with_reducible refine gate_callee (f := 90) rfl ?_); refine gl_ (some 16) Try.func90 #[.float .f64 a0] ?_; (with_reducible refine (math_Signbit.calls a0 true _ A7.out).mono ?_); rintro e w' ⟨rfl, ⟨nd, rfl⟩⟩; refine ⟨_, rfl, ?_⟩))
    go_ret
    exact ⟨fz, fd⟩
   ·obtain rfl := bf_ c8
    rw [if_neg nf_] at H
    replace H := bs_ H; obtain ⟨t209, A9, H⟩ := H
    by_cases c10 : t209 = true
    ·subst c10
     rw [if_pos rfl] at H
     obtain rfl := oj_ H
     go_enter Try.func122, Try.ntmps122
     go_wp2_with (first | ((with_reducible refine gate_callee (f := 32) rfl ?_); refine gl_ (some 7) Try.func32 #[.float .f64 a1] ?_; (with_reducible refine (metric_Limit.calls a1 t206 _ A3.out).mono ?_); rintro e w' ⟨rfl, ⟨nd, rfl⟩⟩; refine ⟨_, rfl, ?_⟩) | ((with_reducible refine gate_callee (f := 73) rfl ?_); refine gl_ (some 13) Try.func73 #[.float .f64 a0] ?_; (with_reducible refine (math_IsNaN.calls a0 false _ A5.out).mono ?_); rintro e w' ⟨rfl, ⟨nd, rfl⟩⟩; refine ⟨_, rfl, ?_⟩) | ((with_reducible refine gate_callee (f := 90) rfl ?_); refine gl_ (some 16) Try.func90 #[.float .f64 a0] ?_; (with_reducible refine (math_Signbit.calls a0 false _ A7.out).mono ?_); rintro e w' ⟨rfl, ⟨nd, rfl⟩⟩; refine ⟨_, rfl, ?_⟩) | ((with_reducible refine gate_callee (f := 62) rfl ?_); refine gl_ (some 19) Try.func62 #[.float .f64 a0, .int .i64 1] ?_; (with_reducible refine (math_IsInf.calls a0 1 true _ A9.out).mono ?_); rintro e w' ⟨rfl, ⟨nd, rfl⟩⟩; refine ⟨_, rfl, ?_⟩))
     go_ret
     exact ⟨fz, fd⟩
    ·obtain rfl := bf_ c10
     rw [if_neg nf_] at H
     by_cases c11 : ((fLt a0 a1) = true)
     ·rw [if_pos c11] at H
      have c11b0 : (fLt a0 a1) = true := c11
      clear c11
      replace H := bs_ H; obtain ⟨t210, A12, H⟩ := H
      by_cases c13 : t210 = true
      ·subst c13
       rw [if_pos rfl] at H
       obtain rfl := oj_ H
       go_enter Try.func122, Try.ntmps122
       go_wp2_with (first | ((with_reducible refine gate_callee (f := 32) rfl ?_); refine gl_ (some 7) Try.func32 #[.float .f64 a1] ?_; (with_reducible refine (metric_Limit.calls a1 t206 _ A3.out).mono ?_); rintro e w' ⟨rfl, ⟨nd, rfl⟩⟩; refine ⟨_, rfl, ?_⟩) | ((with_reducible refine gate_callee (f := 73) rfl ?_); refine gl_ (some 13) Try.func73 #[.float .f64 a0] ?_; (with_reducible refine (math_IsNaN.calls a0 false _ A5.out).mono ?_); rintro e w' ⟨rfl, ⟨nd, rfl⟩⟩; refine ⟨_, rfl, ?_⟩) | ((with_reducible refine gate_callee (f := 90) rfl ?_); refine gl_ (some 16) Try.func90 #[.float .f64 a0] ?_; (with_reducible refine (math_Signbit.calls a0 false _ A7.out).mono ?_); rintro e w' ⟨rfl, ⟨nd, rfl⟩⟩; refine ⟨_, rfl, ?_⟩) | ((with_reducible refine gate_callee (f := 62) rfl ?_); refine gl_ (some 19) Try.func62 #[.float .f64 a0, .int .i64 1] ?_; (with_reducible refine (math_IsInf.calls a0 1 false _ A9.out).mono ?_); rintro e w' ⟨rfl, ⟨nd, rfl⟩⟩; refine ⟨_, rfl, ?_⟩) | ((with_reducible refine gate_callee (f := 91) rfl ?_); refine gl_ (some 27) Try.func91 #[.float .f64 a0] ?_; (with_reducible refine (metric_quarter.calls a0 true _ A12.out).mono ?_); rintro e w' ⟨rfl, ⟨nd, rfl⟩⟩; refine ⟨_, rfl, ?_⟩))
       go_ret
       exact ⟨fz, fd⟩
      ·obtain rfl := bf_ c13
       rw [if_neg nf_] at H
       obtain rfl := oj_ H
       go_enter Try.func122, Try.ntmps122
       go_wp2_with (first | ((with_reducible refine gate_callee (f := 32) rfl ?_); refine gl_ (some 7) Try.func32 #[.float .f64 a1] ?_; (with_reducible refine (metric_Limit.calls a1 t206 _ A3.out).mono ?_); rintro e w' ⟨rfl, ⟨nd, rfl⟩⟩; refine ⟨_, rfl, ?_⟩) | ((with_reducible refine gate_callee (f := 73) rfl ?_); refine gl_ (some 13) Try.func73 #[.float .f64 a0] ?_; (with_reducible refine (math_IsNaN.calls a0 false _ A5.out).mono ?_); rintro e w' ⟨rfl, ⟨nd, rfl⟩⟩; refine ⟨_, rfl, ?_⟩) | ((with_reducible refine gate_callee (f := 90) rfl ?_); refine gl_ (some 16) Try.func90 #[.float .f64 a0] ?_; (with_reducible refine (math_Signbit.calls a0 false _ A7.out).mono ?_); rintro e w' ⟨rfl, ⟨nd, rfl⟩⟩; refine ⟨_, rfl, ?_⟩) | ((with_reducible refine gate_callee (f := 62) rfl ?_); refine gl_ (some 19) Try.func62 #[.float .f64 a0, .int .i64 1] ?_; (with_reducible refine (math_IsInf.calls a0 1 false _ A9.out).mono ?_); rintro e w' ⟨rfl, ⟨nd, rfl⟩⟩; refine ⟨_, rfl, ?_⟩) | ((with_reducible refine gate_callee (f := 91) rfl ?_); refine gl_ (some 27) Try.func91 #[.float .f64 a0] ?_; (with_reducible refine (metric_quarter.calls a0 false _ A12.out).mono ?_); rintro e w' ⟨rfl, ⟨nd, rfl⟩⟩; refine ⟨_, rfl, ?_⟩))
       go_ret
       exact ⟨fz, fd⟩
     ·rw [if_neg c11] at H
      have c11b0 := bf_ c11
      clear c11
      obtain rfl := oj_ H
      go_enter Try.func122, Try.ntmps122
      go_wp2_with (first | ((with_reducible refine gate_callee (f := 32) rfl ?_); refine gl_ (some 7) Try.func32 #[.float .f64 a1] ?_; (with_reducible refine (metric_Limit.calls a1 t206 _ A3.out).mono ?_); rintro e w' ⟨rfl, ⟨nd, rfl⟩⟩; refine ⟨_, rfl, ?_⟩) | ((with_reducible refine gate_callee (f := 73) rfl ?_); refine gl_ (some 13) Try.func73 #[.float .f64 a0] ?_; (with_reducible refine (math_IsNaN.calls a0 false _ A5.out).mono ?_); rintro e w' ⟨rfl, ⟨nd, rfl⟩⟩; refine ⟨_, rfl, ?_⟩) | ((with_reducible refine gate_callee (f := 90) rfl ?_); refine gl_ (some 16) Try.func90 #[.float .f64 a0] ?_; (with_reducible refine (math_Signbit.calls a0 false _ A7.out).mono ?_); rintro e w' ⟨rfl, ⟨nd, rfl⟩⟩; refine ⟨_, rfl, ?_⟩) | ((with_reducible refine gate_callee (f := 62) rfl ?_); refine gl_ (some 19) Try.func62 #[.float .f64 a0, .int .i64 1] ?_; (with_reducible refine (math_IsInf.calls a0 1 false _ A9.out).mono ?_); rintro e w' ⟨rfl, ⟨nd, rfl⟩⟩; refine ⟨_, rfl, ?_⟩))
      go_ret
      exact ⟨fz, fd⟩
 ·rw [if_neg c4] at H
  have c4b0 := bh_ c4
  have c4b1 := bi_ c4
  obtain rfl := oj_ H
  go_enter Try.func122, Try.ntmps122
  go_wp2_with (first | ((with_reducible refine gate_callee (f := 32) rfl ?_); refine gl_ (some 7) Try.func32 #[.float .f64 a1] ?_; (with_reducible refine (metric_Limit.calls a1 t206 _ A3.out).mono ?_); rintro e w' ⟨rfl, ⟨nd, rfl⟩⟩; refine ⟨_, rfl, ?_⟩))
  go_ret
  exact ⟨fz, fd⟩

end Go.Proofs.Ytjkhckbfkinheaa.GLt
