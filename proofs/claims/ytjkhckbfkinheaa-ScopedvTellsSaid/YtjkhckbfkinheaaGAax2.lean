-- written by a program of this session (wip/pp): see NOTES.md
import Derived.Test.YtjkhckbfkinheaaGAax0
namespace Go.Proofs.Ytjkhckbfkinheaa.GAa
open Go.RowKit Go.Proofs.YtjkhckbfkinheaaW.PrintWords Go.Proofs.YtjkhckbfkinheaaW.PrintLast Go.Proofs.YtjkhckbfkinheaaW.PrintMore
attribute [local go_sem] max2_int min2_int max_two min_two max_three min_three max_four min_four   -- for this text's walks alone
attribute [local go_sem high] binOp_flss binOp_fgtr binOp_fleq binOp_fgeq binOp_feql binOp_fneq run_fadd run_fsub run_fmul run_fquo unary_fneg run_ftoint run_fofint run_feqIn ext_bits ext_frombits ext_trunc
set_option linter.unusedVariables false
set_option linter.unusedSimpArgs false

/-! ### ident_CheckId: function 49 -/
def ident_CheckId.j0 : Nat → Bool → Option (Int)
 | 0, _ => none
 | k + 1, x8 => if x8 = true then (some 20) else (some 0)
def ident_CheckId.f (k : Nat) (a0 : Int) : Option (Int) := if a0 < 1 then (ident_CheckId.j0 k true) else (ident_CheckId.j0 k (decide (a0 > 2147483647)))
theorem ident_CheckId.mono_l : ∀ k, (∀ y0, LeO (ident_CheckId.j0 k y0) (ident_CheckId.j0 (k + 1) y0))
 | 0 => fun _ r h => by simp [ident_CheckId.j0] at h
 | k + 1 => by
  have ih0 := ident_CheckId.mono_l k
  ·intro y0
   unfold ident_CheckId.j0
   repeat' first
   | (with_reducible exact ih0 _)
   | (with_reducible exact LeO.refl _)
   | (with_reducible exact LeO.none _)
   | (with_reducible refine LeO.ite ?_ ?_)
   | (with_reducible refine LeO.bind ?_ (fun _ => ?_))
   | exact ih0 _
   | exact LeO.none _
   | refine LeO.ite ?_ ?_
   | refine LeO.bind ?_ (fun _ => ?_)
theorem ident_CheckId.mono : ∀ a0 k, LeO (ident_CheckId.f k a0) (ident_CheckId.f (k + 1) a0) := by
 intro a0 k
 have ih0 := ident_CheckId.mono_l k
 unfold ident_CheckId.f
 repeat' first
   | (with_reducible exact ih0 _)
   | (with_reducible exact LeO.refl _)
   | (with_reducible exact LeO.none _)
   | (with_reducible refine LeO.ite ?_ ?_)
   | (with_reducible refine LeO.bind ?_ (fun _ => ?_))
   | exact ih0 _
   | exact LeO.none _
   | refine LeO.ite ?_ ?_
   | refine LeO.bind ?_ (fun _ => ?_)
set_option maxHeartbeats 8000000 in
set_option maxRecDepth 100000 in
theorem ident_CheckId.calls (k : Nat) (a0 : Int) (r : Int) (w : World) (h : ident_CheckId.f k a0 = some r) :
  Calls Try.prog 49 #[.int .i64 a0] w fun e w' => e = .returned (.int .i64 r) ∧ Drawn0 w w' := by
 have H : (if a0 < 1 then (ident_CheckId.j0 k true) else (ident_CheckId.j0 k (decide (a0 > 2147483647)))) = some r := h
 clear h
 have HC2 := Aside0.mk H
 clear H
 go_enter Try.func49, Try.ntmps49
 go_upto_region 1 with (fail)
 go_cut [8] (fun v8 wc => ∃ (kq : Nat) (x8_1 : Bool), v8 = .bool x8_1 ∧ Aside0 (ident_CheckId.j0 kq x8_1 = some r) ∧ Aside0 (kq ≤ k) ∧ Drawn0 w wc)
 case first =>
  have H := HC2.out
  clear HC2
  by_cases c3 : a0 < 1
  ·rw [if_pos c3] at H
   have c3b0 := decide_eq_true c3
   clear c3
   (first | rw [c3b0] | (simp only [i64_w, i32_w]; rw [c3b0]) | skip)
   have H' := Aside0.mk H
   clear H
   go_wp2
   go_meet
   case rel => exact ⟨_, (true), fz, H', ⟨fl⟩, fd⟩
  ·rw [if_neg c3] at H
   have c3b0 := decide_eq_false c3
   clear c3
   (first | rw [c3b0] | (simp only [i64_w, i32_w]; rw [c3b0]) | skip)
   have H' := Aside0.mk H
   clear H
   go_wp2
   go_meet
   case rel => exact ⟨_, (decide (a0 > 2147483647)), fz, H', ⟨fl⟩, fd⟩
 case rest =>
  clear HC2
  obtain ⟨kq, x8_1, rfl, HA, HJ1, ⟨mc1, rfl⟩⟩ := hcut
  cases kq with
  | zero => exact absurd HA.out (by simp [ident_CheckId.j0])
  | succ kj1 =>
   have H := HA.out
   clear HA
   simp only [ident_CheckId.j0] at H
   by_cases c4 : x8_1 = true
   ·subst c4
    rw [if_pos rfl] at H
    obtain rfl := oj_ H
    go_wp2
    go_ret
    exact ⟨fz, fd⟩
   ·obtain rfl := bf_ c4
    rw [if_neg nf_] at H
    obtain rfl := oj_ H
    go_wp2
    go_ret
    exact ⟨fz, fd⟩

/-! ### math_Abs: function 86 -/
def math_Abs.f (a0 : Nat) : Option (Nat) := some (((Go.bits .andNot .u64 (a0 : Int) 9223372036854775808) : Int).toNat)
set_option maxHeartbeats 8000000 in
set_option maxRecDepth 100000 in
theorem math_Abs.calls (a0 : Nat) (r : Nat) (w : World) (h : math_Abs.f a0 = some r) :
  Calls Try.prog 86 #[.float .f64 a0] w fun e w' => e = .returned (.float .f64 r) ∧ Drawn0 w w' := by
 have H : (some (((Go.bits .andNot .u64 (a0 : Int) 9223372036854775808) : Int).toNat)) = some r := h
 clear h
 obtain rfl := oj_ H
 go_enter Try.func86, Try.ntmps86
 go_wp2
 go_ret
 exact ⟨fz, fd⟩

/-! ### math_IsInf: function 62 -/
def math_IsInf.f (a0 : Nat) (a1 : Int) : Option (Bool) := if a1 = 0 then ((math_Abs.f a0).bind fun t101 => (some (fLt 9218868437227405311 t101))) else (if a1 < 0 then (some (fLt 9218868437227405311 (fNeg a0))) else (some (fLt 9218868437227405311 a0)))
set_option maxHeartbeats 8000000 in
set_option maxRecDepth 100000 in
theorem math_IsInf.calls (a0 : Nat) (a1 : Int) (r : Bool) (w : World) (h : math_IsInf.f a0 a1 = some r) :
  Calls Try.prog 62 #[.float .f64 a0, .int .i64 a1] w fun e w' => e = .returned (.bool r) ∧ Drawn0 w w' := by
 have H : (if a1 = 0 then ((math_Abs.f a0).bind fun t101 => (some (fLt 9218868437227405311 t101))) else (if a1 < 0 then (some (fLt 9218868437227405311 (fNeg a0))) else (some (fLt 9218868437227405311 a0)))) = some r := h
 clear h
 by_cases c3 : a1 = 0
 ·rw [if_pos c3] at H
  have c3b0 := be_ c3
  have c3b1 := bg_ c3
  clear c3
  replace H := bs_ H; obtain ⟨t101, A4, H⟩ := H
  obtain rfl := oj_ H
  go_enter Try.func62, Try.ntmps62
  go_wp2_with (first | ((with_reducible refine gate_callee (f := 86) rfl ?_); refine gl_ (some 8) Try.func86 #[.float .f64 a0] ?_; (with_reducible refine (math_Abs.calls a0 t101 _ A4.out).mono ?_); rintro e w' ⟨rfl, ⟨nd, rfl⟩⟩; refine ⟨_, rfl, ?_⟩))
  go_ret
  exact ⟨fz, fd⟩
 ·rw [if_neg c3] at H
  have c3b0 := bh_ c3
  have c3b1 := bi_ c3
  by_cases c5 : a1 < 0
  ·rw [if_pos c5] at H
   have c5b0 := decide_eq_true c5
   clear c5
   obtain rfl := oj_ H
   go_enter Try.func62, Try.ntmps62
   go_wp2
   go_ret
   exact ⟨fz, fd⟩
  ·rw [if_neg c5] at H
   have c5b0 := decide_eq_false c5
   clear c5
   obtain rfl := oj_ H
   go_enter Try.func62, Try.ntmps62
   go_wp2
   go_ret
   exact ⟨fz, fd⟩

/-! ### math_IsNaN: function 73 -/
def math_IsNaN.f (a0 : Nat) : Option (Bool) := some (!(fEq a0 a0))
set_option maxHeartbeats 8000000 in
set_option maxRecDepth 100000 in
theorem math_IsNaN.calls (a0 : Nat) (r : Bool) (w : World) (h : math_IsNaN.f a0 = some r) :
  Calls Try.prog 73 #[.float .f64 a0] w fun e w' => e = .returned (.bool r) ∧ Drawn0 w w' := by
 have H : (some (!(fEq a0 a0))) = some r := h
 clear h
 obtain rfl := oj_ H
 go_enter Try.func73, Try.ntmps73
 go_wp2
 go_ret
 exact ⟨fz, fd⟩

/-! ### math_Signbit: function 90 -/
def math_Signbit.f (a0 : Nat) : Option (Bool) := some (decide ((wrap64 ((a0 : Int))) < 0))
set_option maxHeartbeats 8000000 in
set_option maxRecDepth 100000 in
theorem math_Signbit.calls (a0 : Nat) (r : Bool) (w : World) (h : math_Signbit.f a0 = some r) :
  Calls Try.prog 90 #[.float .f64 a0] w fun e w' => e = .returned (.bool r) ∧ Drawn0 w w' := by
 have H : (some (decide ((wrap64 ((a0 : Int))) < 0))) = some r := h
 clear h
 obtain rfl := oj_ H
 go_enter Try.func90, Try.ntmps90
 go_wp2
 go_ret
 exact ⟨fz, fd⟩

/-! ### math_Copysign: function 147 -/

/-! ### math_trunc: function 119 -/

/-! ### math_Trunc: function 85 -/
def math_Trunc.f (a0 : Nat) : Option (Nat) := if (fTruncOk a0) = true then (some (fTrunc a0)) else (none)
set_option maxHeartbeats 8000000 in
set_option maxRecDepth 100000 in
theorem math_Trunc.calls (a0 : Nat) (r : Nat) (w : World) (h : math_Trunc.f a0 = some r) :
  Calls Try.prog 85 #[.float .f64 a0] w fun e w' => e = .returned (.float .f64 r) ∧ Drawn0 w w' := by
 have H : (if (fTruncOk a0) = true then (some (fTrunc a0)) else (none)) = some r := h
 clear h
 by_cases c2 : (fTruncOk a0) = true
 ·rw [if_pos c2] at H
  have c2b0 := eq_true c2
  have c2b1 := decide_eq_true c2
  clear c2
  obtain rfl := oj_ H
  go_enter Try.func85, Try.ntmps85
  go_wp2
  go_ret
  exact ⟨fz, fd⟩
 ·rw [if_neg c2] at H
  exact absurd H (by simp)

/-! ### metric_quarter: function 91 -/
def metric_quarter.f (a0 : Nat) : Option (Bool) := if (fMulOk a0 4616189618054758400) = true then ((math_Trunc.f (fMul a0 4616189618054758400)).bind fun t104 => (some (fEq (fMul a0 4616189618054758400) t104))) else (none)
set_option maxHeartbeats 8000000 in
set_option maxRecDepth 100000 in
theorem metric_quarter.calls (a0 : Nat) (r : Bool) (w : World) (h : metric_quarter.f a0 = some r) :
  Calls Try.prog 91 #[.float .f64 a0] w fun e w' => e = .returned (.bool r) ∧ Drawn0 w w' := by
 have H : (if (fMulOk a0 4616189618054758400) = true then ((math_Trunc.f (fMul a0 4616189618054758400)).bind fun t104 => (some (fEq (fMul a0 4616189618054758400) t104))) else (none)) = some r := h
 clear h
 by_cases c2 : (fMulOk a0 4616189618054758400) = true
 ·rw [if_pos c2] at H
  have c2b0 := eq_true c2
  have c2b1 := decide_eq_true c2
  clear c2
  replace H := bs_ H; obtain ⟨t104, A3, H⟩ := H
  obtain rfl := oj_ H
  go_enter Try.func91, Try.ntmps91
  go_wp2_with (first | ((with_reducible refine gate_callee (f := 85) rfl ?_); refine gl_ (some 8) Try.func85 #[.float .f64 (fMul a0 4616189618054758400)] ?_; (with_reducible refine (math_Trunc.calls (fMul a0 4616189618054758400) t104 _ A3.out).mono ?_); rintro e w' ⟨rfl, ⟨nd, rfl⟩⟩; refine ⟨_, rfl, ?_⟩))
  go_ret
  exact ⟨fz, fd⟩
 ·rw [if_neg c2] at H
  exact absurd H (by simp)

end Go.Proofs.Ytjkhckbfkinheaa.GAa
