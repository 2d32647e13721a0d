-- written by a program of this session (wip/pp): see NOTES.md
import Derived.Test.YtjkhckbfkinheaaGAax0
import Derived.Test.YtjkhckbfkinheaaGAax1
import Derived.Test.YtjkhckbfkinheaaGAax2
namespace Go.Proofs.Ytjkhckbfkinheaa.GAa
open Go.RowKit Go.Proofs.YtjkhckbfkinheaaW.PrintWords Go.Proofs.YtjkhckbfkinheaaW.PrintLast Go.Proofs.YtjkhckbfkinheaaW.PrintMore
attribute [local go_sem] max2_int min2_int max_two min_two max_three min_three max_four min_four   -- for this text's walks alone
attribute [local go_sem high] binOp_flss binOp_fgtr binOp_fleq binOp_fgeq binOp_feql binOp_fneq run_fadd run_fsub run_fmul run_fquo unary_fneg run_ftoint run_fofint run_feqIn ext_bits ext_frombits ext_trunc
set_option linter.unusedVariables false
set_option linter.unusedSimpArgs false

attribute [local go_sem high] eqA116
/-! ### metric_within: function 68 -/
def metric_within.f (a0 : Nat) (a1 : Nat) : Option (Int) := (math_IsNaN.f a0).bind fun t105 => (if t105 = true then (some 10) else ((math_IsInf.f a0 0).bind fun t106 => (if t106 = true then (some 11) else ((math_Signbit.f a0).bind fun t107 => (if t107 = true then (some 12) else (if (fLt a0 4607182418800017408) = true then (some 13) else (if (fLt a1 a0) = true then (some 14) else ((metric_quarter.f a0).bind fun t108 => (if t108 = true then (some 0) else (some 15))))))))))
set_option maxHeartbeats 8000000 in
set_option maxRecDepth 100000 in
theorem metric_within.calls (a0 : Nat) (a1 : Nat) (r : Int) (w : World) (h : metric_within.f a0 a1 = some r) :
  Calls Try.prog 68 #[.float .f64 a0, .float .f64 a1] w fun e w' => e = .returned (.int .i64 r) ∧ Drawn0 w w' := by
 have H : ((math_IsNaN.f a0).bind fun t105 => (if t105 = true then (some 10) else ((math_IsInf.f a0 0).bind fun t106 => (if t106 = true then (some 11) else ((math_Signbit.f a0).bind fun t107 => (if t107 = true then (some 12) else (if (fLt a0 4607182418800017408) = true then (some 13) else (if (fLt a1 a0) = true then (some 14) else ((metric_quarter.f a0).bind fun t108 => (if t108 = true then (some 0) else (some 15))))))))))) = some r := h
 clear h
 replace H := bs_ H; obtain ⟨t105, A3, H⟩ := H
 by_cases c4 : t105 = true
 ·subst c4
  rw [if_pos rfl] at H
  obtain rfl := oj_ H
  go_enter Try.func68, Try.ntmps68
  go_wp2_with (first | ((with_reducible refine gate_callee (f := 73) rfl ?_); refine gl_ (some 7) Try.func73 #[.float .f64 a0] ?_; (with_reducible refine (math_IsNaN.calls a0 true _ A3.out).mono ?_); rintro e w' ⟨rfl, ⟨nd, rfl⟩⟩; refine ⟨_, rfl, ?_⟩))
  go_ret
  exact ⟨fz, fd⟩
 ·obtain rfl := bf_ c4
  rw [if_neg nf_] at H
  replace H := bs_ H; obtain ⟨t106, A5, H⟩ := H
  by_cases c6 : t106 = true
  ·subst c6
   rw [if_pos rfl] at H
   obtain rfl := oj_ H
   go_enter Try.func68, Try.ntmps68
   go_wp2_with (first | ((with_reducible refine gate_callee (f := 73) rfl ?_); refine gl_ (some 7) Try.func73 #[.float .f64 a0] ?_; (with_reducible refine (math_IsNaN.calls a0 false _ A3.out).mono ?_); rintro e w' ⟨rfl, ⟨nd, rfl⟩⟩; refine ⟨_, rfl, ?_⟩) | ((with_reducible refine gate_callee (f := 62) rfl ?_); refine gl_ (some 10) Try.func62 #[.float .f64 a0, .int .i64 0] ?_; (with_reducible refine (math_IsInf.calls a0 0 true _ A5.out).mono ?_); rintro e w' ⟨rfl, ⟨nd, rfl⟩⟩; refine ⟨_, rfl, ?_⟩))
   go_ret
   exact ⟨fz, fd⟩
  ·obtain rfl := bf_ c6
   rw [if_neg nf_] at H
   replace H := bs_ H; obtain ⟨t107, A7, H⟩ := H
   by_cases c8 : t107 = true
   ·subst c8
    rw [if_pos rfl] at H
    obtain rfl := oj_ H
    go_enter Try.func68, Try.ntmps68
    go_wp2_with (first | ((with_reducible refine gate_callee (f := 73) rfl ?_); refine gl_ (some 7) Try.func73 #[.float .f64 a0] ?_; (with_reducible refine (math_IsNaN.calls a0 false _ A3.out).mono ?_); rintro e w' ⟨rfl, ⟨nd, rfl⟩⟩; refine ⟨_, rfl, ?_⟩) | ((with_reducible refine gate_callee (f := 62) rfl ?_); refine gl_ (some 10) Try.func62 #[.float .f64 a0, .int .i64 0] ?_; (with_reducible refine (math_IsInf.calls a0 0 false _ A5.out).mono ?_); rintro e w' ⟨rfl, ⟨nd, rfl⟩⟩; refine ⟨_, rfl, ?_⟩) | ((with_reducible refine gate_callee (f := 90) rfl ?_); refine gl_ (some 13) Try.func90 #[.float .f64 a0] ?_; (with_reducible refine (math_Signbit.calls a0 true _ A7.out).mono ?_); rintro e w' ⟨rfl, ⟨nd, rfl⟩⟩; refine ⟨_, rfl, ?_⟩))
    go_ret
    exact ⟨fz, fd⟩
   ·obtain rfl := bf_ c8
    rw [if_neg nf_] at H
    by_cases c9 : (fLt a0 4607182418800017408) = true
    ·rw [if_pos c9] at H
     have c9b0 : (fLt a0 4607182418800017408) = true := c9
     clear c9
     obtain rfl := oj_ H
     go_enter Try.func68, Try.ntmps68
     go_wp2_with (first | ((with_reducible refine gate_callee (f := 73) rfl ?_); refine gl_ (some 7) Try.func73 #[.float .f64 a0] ?_; (with_reducible refine (math_IsNaN.calls a0 false _ A3.out).mono ?_); rintro e w' ⟨rfl, ⟨nd, rfl⟩⟩; refine ⟨_, rfl, ?_⟩) | ((with_reducible refine gate_callee (f := 62) rfl ?_); refine gl_ (some 10) Try.func62 #[.float .f64 a0, .int .i64 0] ?_; (with_reducible refine (math_IsInf.calls a0 0 false _ A5.out).mono ?_); rintro e w' ⟨rfl, ⟨nd, rfl⟩⟩; refine ⟨_, rfl, ?_⟩) | ((with_reducible refine gate_callee (f := 90) rfl ?_); refine gl_ (some 13) Try.func90 #[.float .f64 a0] ?_; (with_reducible refine (math_Signbit.calls a0 false _ A7.out).mono ?_); rintro e w' ⟨rfl, ⟨nd, rfl⟩⟩; refine ⟨_, rfl, ?_⟩))
     go_ret
     exact ⟨fz, fd⟩
    ·rw [if_neg c9] at H
     have c9b0 := bf_ c9
     clear c9
     by_cases c10 : (fLt a1 a0) = true
     ·rw [if_pos c10] at H
      have c10b0 : (fLt a1 a0) = true := c10
      clear c10
      obtain rfl := oj_ H
      go_enter Try.func68, Try.ntmps68
      go_wp2_with (first | ((with_reducible refine gate_callee (f := 73) rfl ?_); refine gl_ (some 7) Try.func73 #[.float .f64 a0] ?_; (with_reducible refine (math_IsNaN.calls a0 false _ A3.out).mono ?_); rintro e w' ⟨rfl, ⟨nd, rfl⟩⟩; refine ⟨_, rfl, ?_⟩) | ((with_reducible refine gate_callee (f := 62) rfl ?_); refine gl_ (some 10) Try.func62 #[.float .f64 a0, .int .i64 0] ?_; (with_reducible refine (math_IsInf.calls a0 0 false _ A5.out).mono ?_); rintro e w' ⟨rfl, ⟨nd, rfl⟩⟩; refine ⟨_, rfl, ?_⟩) | ((with_reducible refine gate_callee (f := 90) rfl ?_); refine gl_ (some 13) Try.func90 #[.float .f64 a0] ?_; (with_reducible refine (math_Signbit.calls a0 false _ A7.out).mono ?_); rintro e w' ⟨rfl, ⟨nd, rfl⟩⟩; refine ⟨_, rfl, ?_⟩))
      go_ret
      exact ⟨fz, fd⟩
     ·rw [if_neg c10] at H
      have c10b0 := bf_ c10
      clear c10
      replace H := bs_ H; obtain ⟨t108, A11, H⟩ := H
      by_cases c12 : t108 = true
      ·subst c12
       rw [if_pos rfl] at H
       obtain rfl := oj_ H
       go_enter Try.func68, Try.ntmps68
       go_wp2_with (first | ((with_reducible refine gate_callee (f := 73) rfl ?_); refine gl_ (some 7) Try.func73 #[.float .f64 a0] ?_; (with_reducible refine (math_IsNaN.calls a0 false _ A3.out).mono ?_); rintro e w' ⟨rfl, ⟨nd, rfl⟩⟩; refine ⟨_, rfl, ?_⟩) | ((with_reducible refine gate_callee (f := 62) rfl ?_); refine gl_ (some 10) Try.func62 #[.float .f64 a0, .int .i64 0] ?_; (with_reducible refine (math_IsInf.calls a0 0 false _ A5.out).mono ?_); rintro e w' ⟨rfl, ⟨nd, rfl⟩⟩; refine ⟨_, rfl, ?_⟩) | ((with_reducible refine gate_callee (f := 90) rfl ?_); refine gl_ (some 13) Try.func90 #[.float .f64 a0] ?_; (with_reducible refine (math_Signbit.calls a0 false _ A7.out).mono ?_); rintro e w' ⟨rfl, ⟨nd, rfl⟩⟩; refine ⟨_, rfl, ?_⟩) | ((with_reducible refine gate_callee (f := 91) rfl ?_); refine gl_ (some 23) Try.func91 #[.float .f64 a0] ?_; (with_reducible refine (metric_quarter.calls a0 true _ A11.out).mono ?_); rintro e w' ⟨rfl, ⟨nd, rfl⟩⟩; refine ⟨_, rfl, ?_⟩))
       go_ret
       exact ⟨fz, fd⟩
      ·obtain rfl := bf_ c12
       rw [if_neg nf_] at H
       obtain rfl := oj_ H
       go_enter Try.func68, Try.ntmps68
       go_wp2_with (first | ((with_reducible refine gate_callee (f := 73) rfl ?_); refine gl_ (some 7) Try.func73 #[.float .f64 a0] ?_; (with_reducible refine (math_IsNaN.calls a0 false _ A3.out).mono ?_); rintro e w' ⟨rfl, ⟨nd, rfl⟩⟩; refine ⟨_, rfl, ?_⟩) | ((with_reducible refine gate_callee (f := 62) rfl ?_); refine gl_ (some 10) Try.func62 #[.float .f64 a0, .int .i64 0] ?_; (with_reducible refine (math_IsInf.calls a0 0 false _ A5.out).mono ?_); rintro e w' ⟨rfl, ⟨nd, rfl⟩⟩; refine ⟨_, rfl, ?_⟩) | ((with_reducible refine gate_callee (f := 90) rfl ?_); refine gl_ (some 13) Try.func90 #[.float .f64 a0] ?_; (with_reducible refine (math_Signbit.calls a0 false _ A7.out).mono ?_); rintro e w' ⟨rfl, ⟨nd, rfl⟩⟩; refine ⟨_, rfl, ?_⟩) | ((with_reducible refine gate_callee (f := 91) rfl ?_); refine gl_ (some 23) Try.func91 #[.float .f64 a0] ?_; (with_reducible refine (metric_quarter.calls a0 false _ A11.out).mono ?_); rintro e w' ⟨rfl, ⟨nd, rfl⟩⟩; refine ⟨_, rfl, ?_⟩))
       go_ret
       exact ⟨fz, fd⟩

/-! ### metric_Weight: function 50 -/
def metric_Weight.f (a0 : Nat) : Option (Int) := (metric_within.f a0 4697254411347427328).bind fun t109 => (some t109)
set_option maxHeartbeats 8000000 in
set_option maxRecDepth 100000 in
theorem metric_Weight.calls (a0 : Nat) (r : Int) (w : World) (h : metric_Weight.f a0 = some r) :
  Calls Try.prog 50 #[.float .f64 a0] w fun e w' => e = .returned (.int .i64 r) ∧ Drawn0 w w' := by
 have H : ((metric_within.f a0 4697254411347427328).bind fun t109 => (some t109)) = some r := h
 clear h
 replace H := bs_ H; obtain ⟨t109, A2, H⟩ := H
 obtain rfl := oj_ H
 go_enter Try.func50, Try.ntmps50
 go_wp2_with (first | ((with_reducible refine gate_callee (f := 68) rfl ?_); refine gl_ (some 4) Try.func68 #[.float .f64 a0, .float .f64 4697254411347427328] ?_; (with_reducible refine (metric_within.calls a0 4697254411347427328 t109 _ A2.out).mono ?_); rintro e w' ⟨rfl, ⟨nd, rfl⟩⟩; refine ⟨_, rfl, ?_⟩))
 go_ret
 exact ⟨fz, fd⟩

/-! ### message_none: function 140 -/
def message_none.f (a0_0 : Int) (a0_1 : Int) (a0_2 : Int) (a0_3 : Int) (a0_4 : Int) (a0_5 : Int) (a0_6 : Int) (a0_7 : Int) (a0_8 : ByteArray) (a0_9 : Int) (a0_10 : Int) (a0_11 : ByteArray) : Option (Bool) := some (a0_0 == 0 && (a0_1 == 0 && (a0_2 == 0 && (a0_3 == 0 && (a0_4 == 0 && (a0_5 == 0 && (a0_6 == 0 && (a0_7 == 0 && (a0_8.toList == ([] : List UInt8) && (a0_9 == 0 && (a0_10 == 0 && (a0_11.toList == ([] : List UInt8)))))))))))))
set_option maxHeartbeats 8000000 in
set_option maxRecDepth 100000 in
theorem message_none.calls (a0_0 : Int) (a0_1 : Int) (a0_2 : Int) (a0_3 : Int) (a0_4 : Int) (a0_5 : Int) (a0_6 : Int) (a0_7 : Int) (a0_8 : ByteArray) (a0_9 : Int) (a0_10 : Int) (a0_11 : ByteArray) (r : Bool) (w : World) (h : message_none.f a0_0 a0_1 a0_2 a0_3 a0_4 a0_5 a0_6 a0_7 a0_8 a0_9 a0_10 a0_11 = some r) :
  Calls Try.prog 140 #[.agg #[.int .i64 a0_0, .int .i64 a0_1, .int .i64 a0_2, .int .i64 a0_3, .int .i64 a0_4, .int .i64 a0_5, .int .u64 a0_6, .int .i64 a0_7, .string a0_8, .int .i64 a0_9, .int .i64 a0_10, .string a0_11]] w fun e w' => e = .returned (.bool r) ∧ Below w.heap.size w w' := by
 have hu116 := Try.underlying116
 have HB := Aside0.mk (Below.refl w.heap.size w)
 have H : (some (a0_0 == 0 && (a0_1 == 0 && (a0_2 == 0 && (a0_3 == 0 && (a0_4 == 0 && (a0_5 == 0 && (a0_6 == 0 && (a0_7 == 0 && (a0_8.toList == ([] : List UInt8) && (a0_9 == 0 && (a0_10 == 0 && (a0_11.toList == ([] : List UInt8)))))))))))))) = some r := h
 clear h
 obtain rfl := oj_ H
 go_enter Try.func140, Try.ntmps140
 go_wp2_with (first | ((with_reducible refine gate_dst (N := 1) rfl ?_); refine bx_ (N := 1) #[.int .i64 a0_0, .int .i64 a0_1, .int .i64 a0_2, .int .i64 a0_3, .int .i64 a0_4, .int .i64 a0_5, .int .u64 a0_6, .int .i64 a0_7, .string a0_8, .int .i64 a0_9, .int .i64 a0_10, .string a0_11] 116 ⟨fb⟩ ?_; clear HB; intro gb110 w2 HB BK110 GE110; have GW110 := GE110; obtain ⟨hcz3_0, hcz3_1, hcz3_2, hcz3_3, hcz3_4, hcz3_5, hcz3_6, hcz3_7, hcz3_8, hcz3_9, hcz3_10, hcz3_11, hfz3_0, hfz3_1, hfz3_2, hfz3_3, hfz3_4, hfz3_5, hfz3_6, hfz3_7, hfz3_8, hfz3_9, hfz3_10, hfz3_11⟩ := cz12 BK110.out))
 go_ret
 exact ⟨fe, fb1 GE110⟩

/-! ### message_number: function 155 -/
def message_number.f (k : Nat) (a0 : Int) : Option (Bool) := (ident_CheckId.f k a0).bind fun t111 => (some (t111 == 0))
theorem message_number.mono : ∀ a0 k, LeO (message_number.f k a0) (message_number.f (k + 1) a0) := by
 intro a0 k
 unfold message_number.f
 repeat' first
   | (with_reducible exact ident_CheckId.mono _ _)
   | (with_reducible exact LeO.refl _)
   | (with_reducible exact LeO.none _)
   | (with_reducible refine LeO.ite ?_ ?_)
   | (with_reducible refine LeO.bind ?_ (fun _ => ?_))
   | exact ident_CheckId.mono _ _
   | exact LeO.none _
   | refine LeO.ite ?_ ?_
   | refine LeO.bind ?_ (fun _ => ?_)
set_option maxHeartbeats 8000000 in
set_option maxRecDepth 100000 in
theorem message_number.calls (k : Nat) (a0 : Int) (r : Bool) (w : World) (h : message_number.f k a0 = some r) :
  Calls Try.prog 155 #[.int .i64 a0] w fun e w' => e = .returned (.bool r) ∧ Drawn0 w w' := by
 have H : ((ident_CheckId.f k a0).bind fun t111 => (some (t111 == 0))) = some r := h
 clear h
 replace H := bs_ H; obtain ⟨t111, A2, H⟩ := H
 obtain rfl := oj_ H
 go_enter Try.func155, Try.ntmps155
 go_wp2_with (first | ((with_reducible refine gate_callee (f := 49) rfl ?_); refine gl_ (some 4) Try.func49 #[.int .i64 a0] ?_; (with_reducible refine (ident_CheckId.calls k a0 t111 _ A2.out).mono ?_); rintro e w' ⟨rfl, ⟨nd, rfl⟩⟩; refine ⟨_, rfl, ?_⟩))
 go_ret
 exact ⟨fz, fd⟩

/-! ### message_distance: function 156 -/
def message_distance.j0 : Nat → Nat → Bool → Option (Bool)
 | 0, _, _ => none
 | k + 1, x0, x8 => if x8 = true then (some false) else ((math_IsInf.f x0 1).bind fun t114 => (if t114 = true then (some true) else (if (fLt x0 4742290407621132288) = true then (if (fMulOk x0 4616189618054758400) = true then ((math_Trunc.f (fMul x0 4616189618054758400)).bind fun t115 => (some (fEq (fMul x0 4616189618054758400) t115))) else (none)) else (some false))))
def message_distance.f (k : Nat) (a0 : Nat) : Option (Bool) := (math_Signbit.f a0).bind fun t112 => (if t112 = true then (message_distance.j0 k a0 true) else ((math_IsNaN.f a0).bind fun t113 => (message_distance.j0 k a0 t113)))
theorem message_distance.mono_l : ∀ k, (∀ y0 y1, LeO (message_distance.j0 k y0 y1) (message_distance.j0 (k + 1) y0 y1))
 | 0 => fun _ _ r h => by simp [message_distance.j0] at h
 | k + 1 => by
  have ih0 := message_distance.mono_l k
  ·intro y0 y1
   unfold message_distance.j0
   repeat' first
   | (with_reducible exact ih0 _ _)
   | (with_reducible exact LeO.refl _)
   | (with_reducible exact LeO.none _)
   | (with_reducible refine LeO.ite ?_ ?_)
   | (with_reducible refine LeO.bind ?_ (fun _ => ?_))
   | exact ih0 _ _
   | exact LeO.none _
   | refine LeO.ite ?_ ?_
   | refine LeO.bind ?_ (fun _ => ?_)
theorem message_distance.mono : ∀ a0 k, LeO (message_distance.f k a0) (message_distance.f (k + 1) a0) := by
 intro a0 k
 have ih0 := message_distance.mono_l k
 unfold message_distance.f
 repeat' first
   | (with_reducible exact ih0 _ _)
   | (with_reducible exact LeO.refl _)
   | (with_reducible exact LeO.none _)
   | (with_reducible refine LeO.ite ?_ ?_)
   | (with_reducible refine LeO.bind ?_ (fun _ => ?_))
   | exact ih0 _ _
   | exact LeO.none _
   | refine LeO.ite ?_ ?_
   | refine LeO.bind ?_ (fun _ => ?_)
set_option maxHeartbeats 8000000 in
set_option maxRecDepth 100000 in
theorem message_distance.calls (k : Nat) (a0 : Nat) (r : Bool) (w : World) (h : message_distance.f k a0 = some r) :
  Calls Try.prog 156 #[.float .f64 a0] w fun e w' => e = .returned (.bool r) ∧ Drawn0 w w' := by
 have H : ((math_Signbit.f a0).bind fun t112 => (if t112 = true then (message_distance.j0 k a0 true) else ((math_IsNaN.f a0).bind fun t113 => (message_distance.j0 k a0 t113)))) = some r := h
 clear h
 have HC2 := Aside0.mk H
 clear H
 go_enter Try.func156, Try.ntmps156
 go_upto_region 1 with (fail)
 go_cut [8] (fun v8 wc => ∃ (kq : Nat) (x8_1 : Bool), v8 = .bool x8_1 ∧ Aside0 (message_distance.j0 kq a0 x8_1 = some r) ∧ Aside0 (kq ≤ k) ∧ Drawn0 w wc)
 case first =>
  have H := HC2.out
  clear HC2
  replace H := bs_ H; obtain ⟨t112, A3, H⟩ := H
  by_cases c4 : t112 = true
  ·subst c4
   rw [if_pos rfl] at H
   have H' := Aside0.mk H
   clear H
   go_wp2_with (first | ((with_reducible refine gate_callee (f := 90) rfl ?_); refine gl_ (some 4) Try.func90 #[.float .f64 a0] ?_; (with_reducible refine (math_Signbit.calls a0 true _ A3.out).mono ?_); rintro e w' ⟨rfl, ⟨nd, rfl⟩⟩; refine ⟨_, rfl, ?_⟩))
   go_meet
   case rel => exact ⟨_, (true), fz, H', ⟨fl⟩, fd⟩
  ·obtain rfl := bf_ c4
   rw [if_neg nf_] at H
   replace H := bs_ H; obtain ⟨t113, A5, H⟩ := H
   have H' := Aside0.mk H
   clear H
   go_wp2_with (first | ((with_reducible refine gate_callee (f := 90) rfl ?_); refine gl_ (some 4) Try.func90 #[.float .f64 a0] ?_; (with_reducible refine (math_Signbit.calls a0 false _ A3.out).mono ?_); rintro e w' ⟨rfl, ⟨nd, rfl⟩⟩; refine ⟨_, rfl, ?_⟩) | (go_at_call 73; (with_reducible refine (math_IsNaN.calls a0 t113 _ A5.out).mono ?_); rintro e w' ⟨rfl, ⟨nd, rfl⟩⟩))
   go_meet
   case rel => exact ⟨_, (t113), fz, H', ⟨fl⟩, fd⟩
 case rest =>
  clear HC2
  obtain ⟨kq, x8_1, rfl, HA, HJ1, ⟨mc1, rfl⟩⟩ := hcut
  cases kq with
  | zero => exact absurd HA.out (by simp [message_distance.j0])
  | succ kj1 =>
   have H := HA.out
   clear HA
   simp only [message_distance.j0] at H
   by_cases c6 : x8_1 = true
   ·subst c6
    rw [if_pos rfl] at H
    obtain rfl := oj_ H
    go_wp2
    go_ret
    exact ⟨fz, fd⟩
   ·obtain rfl := bf_ c6
    rw [if_neg nf_] at H
    replace H := bs_ H; obtain ⟨t114, A7, H⟩ := H
    by_cases c8 : t114 = true
    ·subst c8
     rw [if_pos rfl] at H
     obtain rfl := oj_ H
     go_wp2_with (first | ((with_reducible refine gate_callee (f := 62) rfl ?_); refine gl_ (some 10) Try.func62 #[.float .f64 a0, .int .i64 1] ?_; (with_reducible refine (math_IsInf.calls a0 1 true _ A7.out).mono ?_); rintro e w' ⟨rfl, ⟨nd, rfl⟩⟩; refine ⟨_, rfl, ?_⟩))
     go_ret
     exact ⟨fz, fd⟩
    ·obtain rfl := bf_ c8
     rw [if_neg nf_] at H
     by_cases c9 : (fLt a0 4742290407621132288) = true
     ·rw [if_pos c9] at H
      have c9b0 : (fLt a0 4742290407621132288) = true := c9
      clear c9
      by_cases c10 : (fMulOk a0 4616189618054758400) = true
      ·rw [if_pos c10] at H
       have c10b0 := eq_true c10
       have c10b1 := decide_eq_true c10
       clear c10
       have c11b0 := eq_true (of_decide_eq_true (by first | (with_reducible assumption) | assumption) : (fMulOk a0 4616189618054758400) = true)
       replace H := bs_ H; obtain ⟨t115, A12, H⟩ := H
       obtain rfl := oj_ H
       go_wp2_with (first | ((with_reducible refine gate_callee (f := 62) rfl ?_); refine gl_ (some 10) Try.func62 #[.float .f64 a0, .int .i64 1] ?_; (with_reducible refine (math_IsInf.calls a0 1 false _ A7.out).mono ?_); rintro e w' ⟨rfl, ⟨nd, rfl⟩⟩; refine ⟨_, rfl, ?_⟩) | (go_at_call 85; (with_reducible refine (math_Trunc.calls (fMul a0 4616189618054758400) t115 _ A12.out).mono ?_); rintro e w' ⟨rfl, ⟨nd, rfl⟩⟩))
       go_ret
       exact ⟨fz, fd⟩
      ·rw [if_neg c10] at H
       exact absurd H (by simp)
     ·rw [if_neg c9] at H
      have c9b0 := bf_ c9
      clear c9
      obtain rfl := oj_ H
      go_wp2_with (first | ((with_reducible refine gate_callee (f := 62) rfl ?_); refine gl_ (some 10) Try.func62 #[.float .f64 a0, .int .i64 1] ?_; (with_reducible refine (math_IsInf.calls a0 1 false _ A7.out).mono ?_); rintro e w' ⟨rfl, ⟨nd, rfl⟩⟩; refine ⟨_, rfl, ?_⟩))
      go_ret
      exact ⟨fz, fd⟩

end Go.Proofs.Ytjkhckbfkinheaa.GAa
