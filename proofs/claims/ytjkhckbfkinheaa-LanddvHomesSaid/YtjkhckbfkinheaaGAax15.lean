-- written by a program of this session (wip/pp): see NOTES.md
import Derived.Test.YtjkhckbfkinheaaGAax0
import Derived.Test.YtjkhckbfkinheaaGAax2
import Derived.Test.YtjkhckbfkinheaaGAax14
namespace Go.Proofs.Ytjkhckbfkinheaa.GAa
open Go.RowKit Go.Proofs.YtjkhckbfkinheaaW.PrintWords Go.Proofs.YtjkhckbfkinheaaW.PrintLast Go.Proofs.YtjkhckbfkinheaaW.PrintMore
attribute [local go_sem] max2_int min2_int max_two min_two max_three min_three max_four min_four   -- for this text's walks alone
attribute [local go_sem high] binOp_flss binOp_fgtr binOp_fleq binOp_fgeq binOp_feql binOp_fneq run_fadd run_fsub run_fmul run_fquo unary_fneg run_ftoint run_fofint run_feqIn ext_bits ext_frombits ext_trunc
set_option linter.unusedVariables false
set_option linter.unusedSimpArgs false

/-! ### landdv_may: function 89 -/
mutual
def landdv_may.l0 : Nat → Int → List (S58) → List (S58) → Int → Int → Option (Bool)
 | 0, _, _, _, _, _ => none
 | k + 1, x0, x1, x11, x12, x13 => if x13 < x12 then (if 0 ≤ x13 then (if x13 < (x11.length : Int) then ((math_IsInf.f ((rd_T58 x11 x13).f2) 1).bind fun t198 => (if t198 = true then (landdv_may.j1 k x0 x1 x13 t198 true x11 x12 x13 ((rd_T58 x11 x13).f0) ((rd_T58 x11 x13).f1) ((rd_T58 x11 x13).f2) ((rd_T58 x11 x13).f3) ((rd_T58 x11 x13).f4) ((rd_T58 x11 x13).f5)) else (if (fLt 0 ((rd_T58 x11 x13).f2)) = true then ((metric_Dist.f ((rd_T58 x11 x13).f2) 4742290407621132288).bind fun t199 => (landdv_may.j1 k x0 x1 x13 t198 (t199 == 0) x11 x12 x13 ((rd_T58 x11 x13).f0) ((rd_T58 x11 x13).f1) ((rd_T58 x11 x13).f2) ((rd_T58 x11 x13).f3) ((rd_T58 x11 x13).f4) ((rd_T58 x11 x13).f5))) else (landdv_may.j1 k x0 x1 x13 t198 false x11 x12 x13 ((rd_T58 x11 x13).f0) ((rd_T58 x11 x13).f1) ((rd_T58 x11 x13).f2) ((rd_T58 x11 x13).f3) ((rd_T58 x11 x13).f4) ((rd_T58 x11 x13).f5))))) else (none)) else (none)) else (some true)
def landdv_may.j1 : Nat → Int → List (S58) → Int → Bool → Bool → List (S58) → Int → Int → Int → Int → Nat → Int → Nat → Int → Option (Bool)
 | 0, _, _, _, _, _, _, _, _, _, _, _, _, _, _ => none
 | k + 1, x0, x1, x5, x7, x8, x11, x12, x13, x198000, x198001, x198002, x198003, x198004, x198005 => (ident_CheckId.f k x198003).bind fun t200 => (if t200 = 0 then (if x7 = true then (if x198003 = 0 then (landdv_may.j2 k x0 x1 x5 x8 x7 x11 x12 x13 x198000 x198001 x198002 x198003 x198004 x198005) else (landdv_may.j2 k x0 x1 x5 x8 false x11 x12 x13 x198000 x198001 x198002 x198003 x198004 x198005)) else (landdv_may.j2 k x0 x1 x5 x8 true x11 x12 x13 x198000 x198001 x198002 x198003 x198004 x198005)) else (if x198003 = 0 then (landdv_may.j2 k x0 x1 x5 x8 x7 x11 x12 x13 x198000 x198001 x198002 x198003 x198004 x198005) else (landdv_may.j2 k x0 x1 x5 x8 false x11 x12 x13 x198000 x198001 x198002 x198003 x198004 x198005)))
def landdv_may.j2 : Nat → Int → List (S58) → Int → Bool → Bool → List (S58) → Int → Int → Int → Int → Nat → Int → Nat → Int → Option (Bool)
 | 0, _, _, _, _, _, _, _, _, _, _, _, _, _, _ => none
 | k + 1, x0, x1, x5, x8, x9, x11, x12, x13, x198000, x198001, x198002, x198003, x198004, x198005 => if x198001 = 1 then (if (x198004 : Int) = 0 then (landdv_may.j3 k x0 x1 x5 x8 x9 (x198005 == 0) x11 x12 x13 x198000 x198001 x198002 x198003 x198004 x198005) else (landdv_may.j3 k x0 x1 x5 x8 x9 false x11 x12 x13 x198000 x198001 x198002 x198003 x198004 x198005)) else (landdv_may.j3 k x0 x1 x5 x8 x9 false x11 x12 x13 x198000 x198001 x198002 x198003 x198004 x198005)
def landdv_may.j3 : Nat → Int → List (S58) → Int → Bool → Bool → Bool → List (S58) → Int → Int → Int → Int → Nat → Int → Nat → Int → Option (Bool)
 | 0, _, _, _, _, _, _, _, _, _, _, _, _, _, _, _ => none
 | k + 1, x0, x1, x5, x8, x9, x10, x11, x12, x13, x198000, x198001, x198002, x198003, x198004, x198005 => if x10 = true then (if x8 = true then (if x9 = true then (if x198000 = x0 then (landdv_may.j4 k x0 x1 x11 x12 x13 true) else ((ident_CheckId.f k x198000).bind fun t201 => (if t201 = 0 then (if x5 > 0 then (if 0 ≤ (wrap64 (x5 - 1)) then (if (wrap64 (x5 - 1)) < (x1.length : Int) then (landdv_may.j4 k x0 x1 x11 x12 x13 (decide (x198000 ≤ ((rd_T58 x1 (wrap64 (x5 - 1))).f0)))) else (none)) else (none)) else (landdv_may.j4 k x0 x1 x11 x12 x13 false)) else (landdv_may.j4 k x0 x1 x11 x12 x13 true)))) else (landdv_may.j4 k x0 x1 x11 x12 x13 true)) else (landdv_may.j4 k x0 x1 x11 x12 x13 true)) else (landdv_may.j4 k x0 x1 x11 x12 x13 true)
def landdv_may.j4 : Nat → Int → List (S58) → List (S58) → Int → Int → Bool → Option (Bool)
 | 0, _, _, _, _, _, _ => none
 | k + 1, x0, x1, x11, x12, x13, x99 => if x99 = true then (some false) else (landdv_may.l0 k x0 x1 x11 x12 (wrap64 (x13 + 1)))
end
def landdv_may.f (k : Nat) (a0 : Int) (l1 : List (S58)) : Option (Bool) := landdv_may.l0 k a0 l1 l1 (l1.length : Int) 0
def landdv_may.T8 : Bool × List (List Nat × List Nat) := (true, [([], []), ([0], [0]), ([1], [1]), ([2], [2]), ([3, 2], [2, 3]), ([2, 4], [2, 4]), ([5, 2], [5]), ([6], [6]), ([7, 6], [6, 7]), ([6, 8], [6, 8]), ([9, 6], [9]), ([10], [10]), ([11, 10], [10, 11]), ([10], [10]), ([12, 13, 10], [10, 12, 13]), ([10, 14], [10, 14]), ([15, 10], [15]), ([16], [16]), ([17, 16], [16, 17]), ([18, 16, 16], [16, 18]), ([19, 16], [16, 19]), ([16, 20], [16, 20]), ([21, 19], [21]), ([22], [22]), ([23, 22], [22, 23]), ([24, 22, 22], [22, 24]), ([25], [25]), ([26, 25], [25, 26]), ([25], [25]), ([25], [25]), ([29, 25], [25, 29]), ([28, 30, 25], [25, 28, 30]), ([31, 25], [25, 31]), ([32, 25], [25, 32]), ([27, 33, 25], [25, 27, 33]), ([25, 34, 22], [22, 25, 34]), ([22, 35], [22, 35])])
def landdv_may.B8 : List Nat := [0, 1, 3, 7, 15, 31, 63, 127, 255, 511, 1023, 2047, 4095, 2047, 16383, 32767, 65535, 131071, 262143, 524287, 1048575, 2097151, 4194303, 8388607, 16777215, 33554431, 67108863, 134217727, 67108863, 67108863, 603979775, 1946157055, 4093640703, 8388607999, 17179869183, 34359738367, 68719476735]
theorem landdv_may.tab8 : rtab .any (opsOf Try.f89 8) = landdv_may.T8 := by kernel_rfl
theorem landdv_may.bits8 : waitsOk landdv_may.T8.2 landdv_may.B8 = true := by kernel_rfl
set_option maxHeartbeats 8000000 in
set_option maxRecDepth 100000 in
theorem landdv_may.calls (k : Nat) (a0 : Int) (A1 : Option Addr) (c1 : Nat) (l1 : List (S58)) (r : Bool) (w : World) (hr1 : Kd.C k58 w A1 l1.length l1) (hc1 : l1.length ≤ c1) (h : landdv_may.f k a0 l1 = some r) :
  Calls Try.prog 89 #[.int .i64 a0, .slice A1 l1.length c1] w fun e w' => e = .returned (.bool r) ∧ Below w.heap.size w w' := by
 have hu58 := Try.underlying58
 have HR1 := Aside0.mk hr1
 have HC1 := Aside0.mk hc1
 clear hr1 hc1
 have HB := Aside0.mk (Below.refl w.heap.size w)
 have H : (landdv_may.l0 k a0 l1 l1 (l1.length : Int) 0) = some r := h
 clear h
 have H' := Aside0.mk H
 clear H
 go_enter Try.func89, Try.ntmps89
 go_wp2
 go_loopg [13] k (fun kq v13 w' => ∃ (x13_1 : Int), v13 = .int .i64 x13_1 ∧ Aside0 (landdv_may.l0 kq a0 l1 l1 (l1.length : Int) x13_1 = some r) ∧ Aside0 (kq ≤ k) ∧ Aside0 (Below w.heap.size w w'))
 case atStart => exact ⟨(0), fz, H', ⟨Nat.le_refl _⟩, ⟨fb⟩⟩
 case round =>
  clear H'
  (try clear c1)
  obtain ⟨x13_1, rfl, HA, HK1, HB⟩ := hrel
  cases gk with
  | zero => exact absurd HA.out (by simp [landdv_may.l0])
  | succ k1 =>
   have H := HA.out
   clear HA
   simp only [landdv_may.l0] at H
   by_cases c3 : x13_1 < (l1.length : Int)
   ·rw [if_pos c3] at H
    have c3b0 := decide_eq_true c3
    clear c3
    by_cases c4 : 0 ≤ x13_1
    ·rw [if_pos c4] at H
     have c4b0 := decide_eq_true c4
     clear c4
     by_cases c5 : x13_1 < (l1.length : Int)
     ·rw [if_pos c5] at H
      have c5b0 := decide_eq_true c5
      clear c5
      replace H := bs_ H; obtain ⟨t198, A6, H⟩ := H
      have HC7 := Aside0.mk H
      clear H
      have p196 : 0 ≤ (x13_1 : Int) := of_decide_eq_true (by first | (with_reducible assumption) | assumption)
      have q196 : x13_1 < (l1.length : Int) := of_decide_eq_true (by first | (with_reducible assumption) | assumption)
      obtain ⟨ad196, e196, hx196_0, hx196_1, hx196_2, hx196_3, hx196_4, hx196_5⟩ := at_T58 HR1.out x13_1 p196 q196
      cases e196
      replace hx196_0 := pw_cell_below HB.out hx196_0
      replace hx196_1 := pw_cell_below HB.out hx196_1
      replace hx196_2 := pw_cell_below HB.out hx196_2
      replace hx196_3 := pw_cell_below HB.out hx196_3
      replace hx196_4 := pw_cell_below HB.out hx196_4
      replace hx196_5 := pw_cell_below HB.out hx196_5
      replace p196 := eq_true p196
      replace q196 := eq_true q196
      go_upto_region 5 with (first | ((with_reducible refine gate_dst (N := 6) rfl ?_); refine bx_ (N := 6) #[.int .i64 0, .int .i64 0, .float .f64 0, .int .i64 0, .float .f64 0, .int .i64 0] 58 ⟨fb⟩ ?_; clear HB; intro gb197 w8 HB BK197 GE197; have GW197 := GE197; obtain ⟨hcz9_0, hcz9_1, hcz9_2, hcz9_3, hcz9_4, hcz9_5, hfz9_0, hfz9_1, hfz9_2, hfz9_3, hfz9_4, hfz9_5⟩ := cz6 BK197.out) | ((with_reducible refine gate_callee (f := 62) rfl ?_); refine gl_ (some 20) Try.func62 #[.float .f64 ((rd_T58 l1 x13_1).f2), .int .i64 1] ?_; (with_reducible refine (math_IsInf.calls ((rd_T58 l1 x13_1).f2) 1 t198 _ A6.out).mono ?_); rintro e w' ⟨rfl, ⟨nd, rfl⟩⟩; refine ⟨_, rfl, ?_⟩))
      (try simp only [Act.put, qa, qb, qc])
      go_cut [8] (fun v8 wc => ∃ (kq : Nat) (x8_6 : Bool), v8 = .bool x8_6 ∧ Aside0 (landdv_may.j1 kq a0 l1 x13_1 t198 x8_6 l1 (l1.length : Int) x13_1 ((rd_T58 l1 x13_1).f0) ((rd_T58 l1 x13_1).f1) ((rd_T58 l1 x13_1).f2) ((rd_T58 l1 x13_1).f3) ((rd_T58 l1 x13_1).f4) ((rd_T58 l1 x13_1).f5) = some r) ∧ Aside0 (kq ≤ k1) ∧ Aside0 (wc.heap[gb197]? = some (.cells #[.int .i64 ((rd_T58 l1 x13_1).f0), .int .i64 ((rd_T58 l1 x13_1).f1), .float .f64 ((rd_T58 l1 x13_1).f2), .int .i64 ((rd_T58 l1 x13_1).f3), .float .f64 ((rd_T58 l1 x13_1).f4), .int .i64 ((rd_T58 l1 x13_1).f5)] 58 (0, 0))) ∧ Aside0 (Below w.heap.size w wc))
      case first =>
       have H := HC7.out
       clear HC7
       by_cases c10 : t198 = true
       ·subst c10
        rw [if_pos rfl] at H
        have H' := Aside0.mk H
        clear H
        go_wp2
        go_meet
        case rel => exact ⟨_, (true), fz, H', ⟨by have := HK1.out; exact fl⟩, ⟨kp BK197.out⟩, ⟨fb1 GE197⟩⟩
       ·obtain rfl := bf_ c10
        rw [if_neg nf_] at H
        by_cases c11 : (fLt 0 ((rd_T58 l1 x13_1).f2)) = true
        ·rw [if_pos c11] at H
         have c11b0 : (fLt 0 ((rd_T58 l1 x13_1).f2)) = true := c11
         clear c11
         (first | rw [c11b0] | (simp only [i64_w, i32_w]; rw [c11b0]) | skip)
         replace H := bs_ H; obtain ⟨t199, A12, H⟩ := H
         have H' := Aside0.mk H
         clear H
         obtain ⟨hcz13_0, hcz13_1, hcz13_2, hcz13_3, hcz13_4, hcz13_5, hfz13_0, hfz13_1, hfz13_2, hfz13_3, hfz13_4, hfz13_5⟩ := cz6 BK197.out
         go_wp2_with (first | (go_at_call 122; (with_reducible refine (metric_Dist.calls ((rd_T58 l1 x13_1).f2) 4742290407621132288 t199 _ A12.out).mono ?_); rintro e w' ⟨rfl, ⟨nd, rfl⟩⟩))
         go_meet
         case rel => exact ⟨_, ((t199 == 0)), fz, H', ⟨by have := HK1.out; exact fl⟩, ⟨kp BK197.out⟩, ⟨fb1 GE197⟩⟩
        ·rw [if_neg c11] at H
         have c11b0 := bf_ c11
         clear c11
         (first | rw [c11b0] | (simp only [i64_w, i32_w]; rw [c11b0]) | skip)
         have H' := Aside0.mk H
         clear H
         obtain ⟨hcz14_0, hcz14_1, hcz14_2, hcz14_3, hcz14_4, hcz14_5, hfz14_0, hfz14_1, hfz14_2, hfz14_3, hfz14_4, hfz14_5⟩ := cz6 BK197.out
         go_wp2
         go_meet
         case rel => exact ⟨_, (false), fz, H', ⟨by have := HK1.out; exact fl⟩, ⟨kp BK197.out⟩, ⟨fb1 GE197⟩⟩
      case rest =>
       clear HC7
       (try clear c1); (try clear c3); (try clear c3b0); (try clear c4); (try clear c4b0); (try clear c5); (try clear c5b0); (try clear hcz9_0); (try clear hcz9_1); (try clear hcz9_2); (try clear hcz9_3); (try clear hcz9_4); (try clear hcz9_5); (try clear hfz9_0); (try clear hfz9_1); (try clear hfz9_2); (try clear hfz9_3); (try clear hfz9_4); (try clear hfz9_5); (try clear hx196_0); (try clear hx196_1); (try clear hx196_2); (try clear hx196_3); (try clear hx196_4); (try clear hx196_5); (try clear p196); (try clear q196)
       obtain ⟨kq, x8_6, rfl, HA, HJ6, BK197, HB⟩ := hcut
       cases kq with
       | zero => exact absurd HA.out (by simp [landdv_may.j1])
       | succ kj6 =>
        have H := HA.out
        clear HA
        simp only [landdv_may.j1] at H
        have HC15 := Aside0.mk H
        clear H
        go_upto_region 6 with (fail)
        go_cut [9] (fun v9 wc => ∃ (kq : Nat) (x9_14 : Bool), v9 = .bool x9_14 ∧ Aside0 (landdv_may.j2 kq a0 l1 x13_1 x8_6 x9_14 l1 (l1.length : Int) x13_1 ((rd_T58 l1 x13_1).f0) ((rd_T58 l1 x13_1).f1) ((rd_T58 l1 x13_1).f2) ((rd_T58 l1 x13_1).f3) ((rd_T58 l1 x13_1).f4) ((rd_T58 l1 x13_1).f5) = some r) ∧ Aside0 (kq ≤ kj6) ∧ Aside0 (wc.heap[gb197]? = some (.cells #[.int .i64 ((rd_T58 l1 x13_1).f0), .int .i64 ((rd_T58 l1 x13_1).f1), .float .f64 ((rd_T58 l1 x13_1).f2), .int .i64 ((rd_T58 l1 x13_1).f3), .float .f64 ((rd_T58 l1 x13_1).f4), .int .i64 ((rd_T58 l1 x13_1).f5)] 58 (0, 0))) ∧ Aside0 (Below w.heap.size w wc))
        case first =>
         have H := HC15.out
         clear HC15
         replace H := bs_ H; obtain ⟨t200, A16, H⟩ := H
         by_cases c17 : t200 = 0
         ·rw [if_pos c17] at H
          have c17b0 := be_ c17
          have c17b1 := bg_ c17
          clear c17
          (first | rw [c17b0] | (simp only [i64_w, i32_w]; rw [c17b0]) | skip)
          by_cases c18 : t198 = true
          ·subst c18
           rw [if_pos rfl] at H
           by_cases c19 : ((rd_T58 l1 x13_1).f3) = 0
           ·rw [if_pos c19] at H
            have c19b0 := be_ c19
            have c19b1 := bg_ c19
            clear c19
            have H' := Aside0.mk H
            clear H
            obtain ⟨hcz20_0, hcz20_1, hcz20_2, hcz20_3, hcz20_4, hcz20_5, hfz20_0, hfz20_1, hfz20_2, hfz20_3, hfz20_4, hfz20_5⟩ := cz6 BK197.out
            go_wp2_with (first | ((with_reducible refine gate_callee (f := 49) rfl ?_); refine gl_ (some 35) Try.func49 #[.int .i64 ((rd_T58 l1 x13_1).f3)] ?_; (with_reducible refine (ident_CheckId.calls kj6 ((rd_T58 l1 x13_1).f3) t200 _ A16.out).mono ?_); rintro e w' ⟨rfl, ⟨nd, rfl⟩⟩; refine ⟨_, rfl, ?_⟩))
            go_meet
            case rel => exact ⟨_, (true), fz, H', ⟨by have := HK1.out; have := HJ6.out; exact fl⟩, ⟨kp BK197.out⟩, ⟨fb1 GE197⟩⟩
           ·rw [if_neg c19] at H
            have c19b0 := bh_ c19
            have c19b1 := bi_ c19
            have H' := Aside0.mk H
            clear H
            obtain ⟨hcz21_0, hcz21_1, hcz21_2, hcz21_3, hcz21_4, hcz21_5, hfz21_0, hfz21_1, hfz21_2, hfz21_3, hfz21_4, hfz21_5⟩ := cz6 BK197.out
            go_wp2_with (first | ((with_reducible refine gate_callee (f := 49) rfl ?_); refine gl_ (some 35) Try.func49 #[.int .i64 ((rd_T58 l1 x13_1).f3)] ?_; (with_reducible refine (ident_CheckId.calls kj6 ((rd_T58 l1 x13_1).f3) t200 _ A16.out).mono ?_); rintro e w' ⟨rfl, ⟨nd, rfl⟩⟩; refine ⟨_, rfl, ?_⟩))
            go_meet
            case rel => exact ⟨_, (false), fz, H', ⟨by have := HK1.out; have := HJ6.out; exact fl⟩, ⟨kp BK197.out⟩, ⟨fb1 GE197⟩⟩
          ·obtain rfl := bf_ c18
           rw [if_neg nf_] at H
           have H' := Aside0.mk H
           clear H
           obtain ⟨hcz22_0, hcz22_1, hcz22_2, hcz22_3, hcz22_4, hcz22_5, hfz22_0, hfz22_1, hfz22_2, hfz22_3, hfz22_4, hfz22_5⟩ := cz6 BK197.out
           go_wp2_with (first | ((with_reducible refine gate_callee (f := 49) rfl ?_); refine gl_ (some 35) Try.func49 #[.int .i64 ((rd_T58 l1 x13_1).f3)] ?_; (with_reducible refine (ident_CheckId.calls kj6 ((rd_T58 l1 x13_1).f3) t200 _ A16.out).mono ?_); rintro e w' ⟨rfl, ⟨nd, rfl⟩⟩; refine ⟨_, rfl, ?_⟩))
           go_meet
           case rel => exact ⟨_, (true), fz, H', ⟨by have := HK1.out; have := HJ6.out; exact fl⟩, ⟨kp BK197.out⟩, ⟨fb1 GE197⟩⟩
         ·rw [if_neg c17] at H
          have c17b0 := bh_ c17
          have c17b1 := bi_ c17
          (first | rw [c17b0] | (simp only [i64_w, i32_w]; rw [c17b0]) | skip)
          by_cases c23 : ((rd_T58 l1 x13_1).f3) = 0
          ·rw [if_pos c23] at H
           have c23b0 := be_ c23
           have c23b1 := bg_ c23
           clear c23
           have H' := Aside0.mk H
           clear H
           obtain ⟨hcz24_0, hcz24_1, hcz24_2, hcz24_3, hcz24_4, hcz24_5, hfz24_0, hfz24_1, hfz24_2, hfz24_3, hfz24_4, hfz24_5⟩ := cz6 BK197.out
           go_wp2_with (first | ((with_reducible refine gate_callee (f := 49) rfl ?_); refine gl_ (some 35) Try.func49 #[.int .i64 ((rd_T58 l1 x13_1).f3)] ?_; (with_reducible refine (ident_CheckId.calls kj6 ((rd_T58 l1 x13_1).f3) t200 _ A16.out).mono ?_); rintro e w' ⟨rfl, ⟨nd, rfl⟩⟩; refine ⟨_, rfl, ?_⟩))
           go_meet
           case rel => exact ⟨_, (t198), fz, H', ⟨by have := HK1.out; have := HJ6.out; exact fl⟩, ⟨kp BK197.out⟩, ⟨fb1 GE197⟩⟩
          ·rw [if_neg c23] at H
           have c23b0 := bh_ c23
           have c23b1 := bi_ c23
           have H' := Aside0.mk H
           clear H
           obtain ⟨hcz25_0, hcz25_1, hcz25_2, hcz25_3, hcz25_4, hcz25_5, hfz25_0, hfz25_1, hfz25_2, hfz25_3, hfz25_4, hfz25_5⟩ := cz6 BK197.out
           go_wp2_with (first | ((with_reducible refine gate_callee (f := 49) rfl ?_); refine gl_ (some 35) Try.func49 #[.int .i64 ((rd_T58 l1 x13_1).f3)] ?_; (with_reducible refine (ident_CheckId.calls kj6 ((rd_T58 l1 x13_1).f3) t200 _ A16.out).mono ?_); rintro e w' ⟨rfl, ⟨nd, rfl⟩⟩; refine ⟨_, rfl, ?_⟩))
           go_meet
           case rel => exact ⟨_, (false), fz, H', ⟨by have := HK1.out; have := HJ6.out; exact fl⟩, ⟨kp BK197.out⟩, ⟨fb1 GE197⟩⟩
        case rest =>
         clear HC15
         (try clear c1); (try clear c3); (try clear c3b0); (try clear c4); (try clear c4b0); (try clear c5); (try clear c5b0); (try clear hcz9_0); (try clear hcz9_1); (try clear hcz9_2); (try clear hcz9_3); (try clear hcz9_4); (try clear hcz9_5); (try clear hfz9_0); (try clear hfz9_1); (try clear hfz9_2); (try clear hfz9_3); (try clear hfz9_4); (try clear hfz9_5); (try clear hx196_0); (try clear hx196_1); (try clear hx196_2); (try clear hx196_3); (try clear hx196_4); (try clear hx196_5); (try clear p196); (try clear q196)
         obtain ⟨kq, x9_14, rfl, HA, HJ14, BK197, HB⟩ := hcut
         cases kq with
         | zero => exact absurd HA.out (by simp [landdv_may.j2])
         | succ kj14 =>
          have H := HA.out
          clear HA
          simp only [landdv_may.j2] at H
          have HC26 := Aside0.mk H
          clear H
          go_upto_region 7 with (fail)
          go_cut [10] (fun v10 wc => ∃ (kq : Nat) (x10_25 : Bool), v10 = .bool x10_25 ∧ Aside0 (landdv_may.j3 kq a0 l1 x13_1 x8_6 x9_14 x10_25 l1 (l1.length : Int) x13_1 ((rd_T58 l1 x13_1).f0) ((rd_T58 l1 x13_1).f1) ((rd_T58 l1 x13_1).f2) ((rd_T58 l1 x13_1).f3) ((rd_T58 l1 x13_1).f4) ((rd_T58 l1 x13_1).f5) = some r) ∧ Aside0 (kq ≤ kj14) ∧ Aside0 (wc.heap[gb197]? = some (.cells #[.int .i64 ((rd_T58 l1 x13_1).f0), .int .i64 ((rd_T58 l1 x13_1).f1), .float .f64 ((rd_T58 l1 x13_1).f2), .int .i64 ((rd_T58 l1 x13_1).f3), .float .f64 ((rd_T58 l1 x13_1).f4), .int .i64 ((rd_T58 l1 x13_1).f5)] 58 (0, 0))) ∧ Aside0 (Below w.heap.size w wc))
          case first =>
           have H := HC26.out
           clear HC26
           by_cases c27 : ((rd_T58 l1 x13_1).f1) = 1
           ·rw [if_pos c27] at H
            have c27b0 := be_ c27
            have c27b1 := bg_ c27
            clear c27
            (first | rw [c27b0] | (simp only [i64_w, i32_w]; rw [c27b0]) | skip)
            by_cases c28 : (((rd_T58 l1 x13_1).f4) : Int) = 0
            ·rw [if_pos c28] at H
             have c28b0 := be_ c28
             have c28b1 := bg_ c28
             clear c28
             have H' := Aside0.mk H
             clear H
             obtain ⟨hcz29_0, hcz29_1, hcz29_2, hcz29_3, hcz29_4, hcz29_5, hfz29_0, hfz29_1, hfz29_2, hfz29_3, hfz29_4, hfz29_5⟩ := cz6 BK197.out
             go_wp2
             go_meet
             case rel => exact ⟨_, ((((rd_T58 l1 x13_1).f5) == 0)), fz, H', ⟨by have := HK1.out; have := HJ6.out; have := HJ14.out; exact fl⟩, ⟨kp BK197.out⟩, ⟨fb1 GE197⟩⟩
            ·rw [if_neg c28] at H
             have c28b0 := bh_ c28
             have c28b1 := bi_ c28
             have H' := Aside0.mk H
             clear H
             obtain ⟨hcz30_0, hcz30_1, hcz30_2, hcz30_3, hcz30_4, hcz30_5, hfz30_0, hfz30_1, hfz30_2, hfz30_3, hfz30_4, hfz30_5⟩ := cz6 BK197.out
             go_wp2
             go_meet
             case rel => exact ⟨_, (false), fz, H', ⟨by have := HK1.out; have := HJ6.out; have := HJ14.out; exact fl⟩, ⟨kp BK197.out⟩, ⟨fb1 GE197⟩⟩
           ·rw [if_neg c27] at H
            have c27b0 := bh_ c27
            have c27b1 := bi_ c27
            (first | rw [c27b0] | (simp only [i64_w, i32_w]; rw [c27b0]) | skip)
            have H' := Aside0.mk H
            clear H
            obtain ⟨hcz31_0, hcz31_1, hcz31_2, hcz31_3, hcz31_4, hcz31_5, hfz31_0, hfz31_1, hfz31_2, hfz31_3, hfz31_4, hfz31_5⟩ := cz6 BK197.out
            go_wp2
            go_meet
            case rel => exact ⟨_, (false), fz, H', ⟨by have := HK1.out; have := HJ6.out; have := HJ14.out; exact fl⟩, ⟨kp BK197.out⟩, ⟨fb1 GE197⟩⟩
          case rest =>
           clear HC26
           (try clear c1); (try clear c3); (try clear c3b0); (try clear c4); (try clear c4b0); (try clear c5); (try clear c5b0); (try clear hcz9_0); (try clear hcz9_1); (try clear hcz9_2); (try clear hcz9_3); (try clear hcz9_4); (try clear hcz9_5); (try clear hfz9_0); (try clear hfz9_1); (try clear hfz9_2); (try clear hfz9_3); (try clear hfz9_4); (try clear hfz9_5); (try clear hx196_0); (try clear hx196_1); (try clear hx196_2); (try clear hx196_3); (try clear hx196_4); (try clear hx196_5); (try clear p196); (try clear q196)
           obtain ⟨kq, x10_25, rfl, HA, HJ25, BK197, HB⟩ := hcut
           cases kq with
           | zero => exact absurd HA.out (by simp [landdv_may.j3])
           | succ kj25 =>
            have H := HA.out
            clear HA
            simp only [landdv_may.j3] at H
            have HC32 := Aside0.mk H
            clear H
            go_upto_region 8 with (fail)
            go_cut [99] (fun v99 wc => ∃ (kq : Nat) (x99_31 : Bool), v99 = .bool x99_31 ∧ Aside0 (landdv_may.j4 kq a0 l1 l1 (l1.length : Int) x13_1 x99_31 = some r) ∧ Aside0 (kq ≤ kj25) ∧ Aside0 (wc.heap[gb197]? = some (.cells #[.int .i64 ((rd_T58 l1 x13_1).f0), .int .i64 ((rd_T58 l1 x13_1).f1), .float .f64 ((rd_T58 l1 x13_1).f2), .int .i64 ((rd_T58 l1 x13_1).f3), .float .f64 ((rd_T58 l1 x13_1).f4), .int .i64 ((rd_T58 l1 x13_1).f5)] 58 (0, 0))) ∧ Aside0 (Below w.heap.size w wc))
            case first =>
             have H := HC32.out
             clear HC32
             by_cases c33 : x10_25 = true
             ·subst c33
              rw [if_pos rfl] at H
              by_cases c34 : x8_6 = true
              ·subst c34
               rw [if_pos rfl] at H
               by_cases c35 : x9_14 = true
               ·subst c35
                rw [if_pos rfl] at H
                by_cases c36 : ((rd_T58 l1 x13_1).f0) = a0
                ·rw [if_pos c36] at H
                 have c36b0 := be_ c36
                 have c36b1 := bg_ c36
                 clear c36
                 (first | rw [c36b0] | (simp only [i64_w, i32_w]; rw [c36b0]) | skip)
                 have H' := Aside0.mk H
                 clear H
                 try go_wp2
                 have n0_ := Aside0.mk (blk_drew BK197.out)
                 have n1_ := Aside0.mk (below_drew1 HB.out)
                 clear BK197
                 clear HB
                 have BK197 := n0_
                 have HB := n1_
                 clear n0_ n1_
                 refine start_ (n := 37) (S := fun w' => w'.cell? ⟨gb197, 0, none⟩ = some (.int .i64 ((rd_T58 l1 x13_1).f0)) ∧ w'.cell? ⟨gb197, 1, none⟩ = some (.int .i64 ((rd_T58 l1 x13_1).f1)) ∧ w'.cell? ⟨gb197, 2, none⟩ = some (.float .f64 ((rd_T58 l1 x13_1).f2)) ∧ w'.cell? ⟨gb197, 3, none⟩ = some (.int .i64 ((rd_T58 l1 x13_1).f3)) ∧ w'.cell? ⟨gb197, 4, none⟩ = some (.float .f64 ((rd_T58 l1 x13_1).f4)) ∧ w'.cell? ⟨gb197, 5, none⟩ = some (.int .i64 ((rd_T58 l1 x13_1).f5))) (ds := []) (bz 37 0) (by kernel_rfl) rfl rfl ⟨(blk_cell BK197.out 0).trans rfl, (blk_cell BK197.out 1).trans rfl, (blk_cell BK197.out 2).trans rfl, (blk_cell BK197.out 3).trans rfl, (blk_cell BK197.out 4).trans rfl, (blk_cell BK197.out 5).trans rfl⟩ (fun hHeld => ?_); refine with_tabW landdv_may.tab8 landdv_may.bits8 (fun HT_ HW_ => ?_)
                 generalize wc.drew = w37 at BK197 HB hHeld ⊢
                 refine pu2 0 (some 63) (bz 37 1) ?_
                 refine pu2 1 (some 64) (bz 37 3) ?_
                 refine pu2 2 (some 65) (bz 37 7) ?_
                 refine pu2 3 (some 66) (bz 37 15) ?_
                 refine pu2 4 (some 67) (bz 37 31) ?_
                 refine pu2 5 (some 68) (bz 37 63) ?_
                 refine pu2 6 (some 69) (bz 37 127) ?_
                 refine pu2 7 (some 70) (bz 37 255) ?_
                 refine pu2 8 (some 71) (bz 37 511) ?_
                 refine pu2 9 (some 72) (bz 37 1023) ?_
                 refine pu2 10 (some 73) (bz 37 2047) ?_
                 refine pu2 11 (some 74) (bz 37 4095) ?_
                 refine pu2 13 (some 76) (bz 37 12287) ?_
                 refine tk2 12 (some 75) (bz 37 16383) ?_
                 refine pu2 14 (some 77) (bz 37 32767) ?_
                 refine pu2 15 (some 78) (bz 37 65535) ?_
                 refine pu2 16 (some 79) (bz 37 131071) ?_
                 refine pz2 17 (some 80) (bz 37 262143) ?_
                 refine pz2 18 (some 81) (bz 37 524287) ?_
                 refine pz2 19 (some 82) (bz 37 1048575) ?_
                 refine pz2 20 (some 83) (bz 37 2097151) ?_
                 refine pu2 21 (some 84) (bz 37 4194303) ?_
                 refine pu2 22 (some 85) (bz 37 8388607) ?_
                 refine pz2 23 (some 86) (bz 37 16777215) ?_
                 refine pz2 24 (some 87) (bz 37 33554431) ?_
                 refine pz2 25 (some 88) (bz 37 67108863) ?_
                 refine pz2 26 (some 89) (bz 37 134217727) ?_
                 refine pz2 27 (some 90) (bz 37 268435455) ?_
                 refine pz2 28 (some 91) (bz 37 536870911) ?_
                 refine pz2 29 (some 92) (bz 37 1073741823) ?_
                 refine pz2 30 (some 93) (bz 37 2147483647) ?_
                 refine pz2 31 (some 94) (bz 37 4294967295) ?_
                 refine pz2 32 (some 95) (bz 37 8589934591) ?_
                 refine pz2 33 (some 96) (bz 37 17179869183) ?_
                 refine pz2 34 (some 97) (bz 37 34359738367) ?_
                 refine pz2 35 (some 98) (bz 37 68719476735) ?_
                 refine pu2 36 (some 99) (bz 37 137438953471) ?_
                 refine done_ (done_of HT_.out (by kernel_rfl)) ?_
                 try go_wp2
                 go_meet
                 case rel => exact ⟨_, (true), fz, H', ⟨by have := HK1.out; have := HJ6.out; have := HJ14.out; have := HJ25.out; exact fl⟩, ⟨kp BK197.out⟩, ⟨fb1 GE197⟩⟩
                ·rw [if_neg c36] at H
                 have c36b0 := bh_ c36
                 have c36b1 := bi_ c36
                 (first | rw [c36b0] | (simp only [i64_w, i32_w]; rw [c36b0]) | skip)
                 replace H := bs_ H; obtain ⟨t201, A38, H⟩ := H
                 by_cases c39 : t201 = 0
                 ·rw [if_pos c39] at H
                  have c39b0 := be_ c39
                  have c39b1 := bg_ c39
                  clear c39
                  by_cases c40 : x13_1 > 0
                  ·rw [if_pos c40] at H
                   have c40b0 := decide_eq_true c40
                   clear c40
                   obtain ⟨ji41, hji41⟩ : ∃ j_ : Int, (wrap64 (x13_1 - 1)) = j_ := ⟨_, rfl⟩
                   replace H : (if 0 ≤ (ji41) then (if (ji41) < (l1.length : Int) then (landdv_may.j4 kj25 a0 l1 l1 (l1.length : Int) x13_1 (decide (((rd_T58 l1 x13_1).f0) ≤ ((rd_T58 l1 (ji41)).f0)))) else (none)) else (none)) = some r := by first | (rw [hji41] at H; exact H) | (simp only [hji41] at H ⊢; exact H)
                   (try rw [hji41] at A38)
                   have hji41w : (IntKind.i64.wrap (x13_1 - 1)) = ji41 := (i64_w _).trans hji41
                   by_cases c42 : 0 ≤ (ji41)
                   ·rw [if_pos c42] at H
                    have c42b0 := decide_eq_true c42
                    clear c42
                    by_cases c43 : (ji41) < (l1.length : Int)
                    ·rw [if_pos c43] at H
                     have c43b0 := decide_eq_true c43
                     clear c43
                     have H' := Aside0.mk H
                     clear H
                     try go_wp2
                     have n0_ := Aside0.mk (blk_drew BK197.out)
                     have n1_ := Aside0.mk (below_drew1 HB.out)
                     clear BK197
                     clear HB
                     have BK197 := n0_
                     have HB := n1_
                     clear n0_ n1_
                     have p202 : 0 ≤ ((ji41) : Int) := of_decide_eq_true (by first | (with_reducible assumption) | assumption)
                     have q202 : (ji41) < (l1.length : Int) := of_decide_eq_true (by first | (with_reducible assumption) | assumption)
                     obtain ⟨ad202, e202, hx202_0, hx202_1, hx202_2, hx202_3, hx202_4, hx202_5⟩ := at_T58 HR1.out (ji41) p202 q202
                     have hw202_5 := hx202_5
                     have hw202_4 := hx202_4
                     have hw202_3 := hx202_3
                     have hw202_2 := hx202_2
                     have hw202_1 := hx202_1
                     have hw202_0 := hx202_0
                     obtain rfl : ad196 = ad202 := (by injection e202)
                     replace hx202_0 := pw_cell_below HB.out hx202_0
                     replace hx202_1 := pw_cell_below HB.out hx202_1
                     replace hx202_2 := pw_cell_below HB.out hx202_2
                     replace hx202_3 := pw_cell_below HB.out hx202_3
                     replace hx202_4 := pw_cell_below HB.out hx202_4
                     replace hx202_5 := pw_cell_below HB.out hx202_5
                     replace p202 := eq_true p202
                     replace q202 := eq_true q202
                     refine start_ (n := 37) (S := fun w' => w'.cell? ⟨gb197, 0, none⟩ = some (.int .i64 ((rd_T58 l1 x13_1).f0)) ∧ w'.cell? ⟨gb197, 1, none⟩ = some (.int .i64 ((rd_T58 l1 x13_1).f1)) ∧ w'.cell? ⟨gb197, 2, none⟩ = some (.float .f64 ((rd_T58 l1 x13_1).f2)) ∧ w'.cell? ⟨gb197, 3, none⟩ = some (.int .i64 ((rd_T58 l1 x13_1).f3)) ∧ w'.cell? ⟨gb197, 4, none⟩ = some (.float .f64 ((rd_T58 l1 x13_1).f4)) ∧ w'.cell? ⟨gb197, 5, none⟩ = some (.int .i64 ((rd_T58 l1 x13_1).f5)) ∧ w'.cell? (ad196.add (((ji41)).toNat * 6)) = some (.int .i64 ((rd_T58 l1 (ji41)).f0)) ∧ w'.cell? ⟨(ad196.add (((ji41)).toNat * 6)).block, (ad196.add (((ji41)).toNat * 6)).off + 1, none⟩ = some (.int .i64 ((rd_T58 l1 (ji41)).f1)) ∧ w'.cell? ⟨(ad196.add (((ji41)).toNat * 6)).block, (ad196.add (((ji41)).toNat * 6)).off + 2, none⟩ = some (.float .f64 ((rd_T58 l1 (ji41)).f2)) ∧ w'.cell? ⟨(ad196.add (((ji41)).toNat * 6)).block, (ad196.add (((ji41)).toNat * 6)).off + 3, none⟩ = some (.int .i64 ((rd_T58 l1 (ji41)).f3)) ∧ w'.cell? ⟨(ad196.add (((ji41)).toNat * 6)).block, (ad196.add (((ji41)).toNat * 6)).off + 4, none⟩ = some (.float .f64 ((rd_T58 l1 (ji41)).f4)) ∧ w'.cell? ⟨(ad196.add (((ji41)).toNat * 6)).block, (ad196.add (((ji41)).toNat * 6)).off + 5, none⟩ = some (.int .i64 ((rd_T58 l1 (ji41)).f5))) (ds := []) (bz 37 0) (by kernel_rfl) rfl rfl ⟨(blk_cell BK197.out 0).trans rfl, (blk_cell BK197.out 1).trans rfl, (blk_cell BK197.out 2).trans rfl, (blk_cell BK197.out 3).trans rfl, (blk_cell BK197.out 4).trans rfl, (blk_cell BK197.out 5).trans rfl, ((HB.out.cell (World.block_lt_of_cell? w _ hw202_0)).trans hw202_0), ((HB.out.cell (World.block_lt_of_cell? w _ hw202_1)).trans hw202_1), ((HB.out.cell (World.block_lt_of_cell? w _ hw202_2)).trans hw202_2), ((HB.out.cell (World.block_lt_of_cell? w _ hw202_3)).trans hw202_3), ((HB.out.cell (World.block_lt_of_cell? w _ hw202_4)).trans hw202_4), ((HB.out.cell (World.block_lt_of_cell? w _ hw202_5)).trans hw202_5)⟩ (fun hHeld => ?_); refine with_tabW landdv_may.tab8 landdv_may.bits8 (fun HT_ HW_ => ?_)
                     generalize wc.drew = w44 at BK197 HB hx202_0 hx202_1 hx202_2 hx202_3 hx202_4 hx202_5 hHeld ⊢
                     refine pu2 0 (some 63) (bz 37 1) ?_
                     refine pu2 1 (some 64) (bz 37 3) ?_
                     refine pu2 2 (some 65) (bz 37 7) ?_
                     refine pu2 3 (some 66) (bz 37 15) ?_
                     refine pu2 4 (some 67) (bz 37 31) ?_
                     refine pu2 5 (some 68) (bz 37 63) ?_
                     refine pu2 6 (some 69) (bz 37 127) ?_
                     refine pu2 7 (some 70) (bz 37 255) ?_
                     refine pu2 8 (some 71) (bz 37 511) ?_
                     refine pu2 9 (some 72) (bz 37 1023) ?_
                     refine pu2 10 (some 73) (bz 37 2047) ?_
                     refine pu2 11 (some 74) (bz 37 4095) ?_
                     refine pu2 13 (some 76) (bz 37 12287) ?_
                     refine tk2 12 (some 75) (bz 37 16383) ?_
                     refine pu2 14 (some 77) (bz 37 32767) ?_
                     refine pu2 15 (some 78) (bz 37 65535) ?_
                     refine pu2 16 (some 79) (bz 37 131071) ?_
                     refine pu2 17 (some 80) (bz 37 262143) ?_
                     refine tk2 18 (some 81) (bz 37 524287) ?_
                     refine one_ (i := 19) (N := some 82) (bz 37 1048575) rfl rfl (one_of HT_.out (by kernel_rfl)) (by decide) (fun K hK => ?_)
                     refine goes_ Try.func49 (by kernel_rfl) rfl #[.int .i64 ((rd_T58 l1 x13_1).f0)] (by rfl) rfl rfl (by (try simp only [List.map_toArray, List.map_cons, List.map_nil]); first | done | rfl | (simp only [List.length_drop, List.length_take]; rfl)) ?_
                     with_reducible refine (ident_CheckId.calls kj25 ((rd_T58 l1 x13_1).f0) t201 _ A38.out).mono ?_
                     rintro e w' ⟨rfl, ⟨nd, rfl⟩⟩
                     refine ⟨_, rfl, ?_⟩
                     refine hK.out _ _ ⟨(blk_cell BK197.out 0).trans rfl, (blk_cell BK197.out 1).trans rfl, (blk_cell BK197.out 2).trans rfl, (blk_cell BK197.out 3).trans rfl, (blk_cell BK197.out 4).trans rfl, (blk_cell BK197.out 5).trans rfl, ((HB.out.cell (World.block_lt_of_cell? w _ hw202_0)).trans hw202_0), ((HB.out.cell (World.block_lt_of_cell? w _ hw202_1)).trans hw202_1), ((HB.out.cell (World.block_lt_of_cell? w _ hw202_2)).trans hw202_2), ((HB.out.cell (World.block_lt_of_cell? w _ hw202_3)).trans hw202_3), ((HB.out.cell (World.block_lt_of_cell? w _ hw202_4)).trans hw202_4), ((HB.out.cell (World.block_lt_of_cell? w _ hw202_5)).trans hw202_5)⟩ (fun hHeld => ?_)
                     clear hK K
                     refine norm_ (a' := ?_) ?_ ?_; rotate_left; show Act.put _ (some 82) _ = _; simp only [Act.put, qa, qb, qc, i64_w, i32_w]; rfl
                     refine pu2 20 (some 83) (bz 37 2097151) ?_
                     refine pu2 21 (some 84) (bz 37 4194303) ?_
                     refine pu2 22 (some 85) (bz 37 8388607) ?_
                     refine pu2 23 (some 86) (bz 37 16777215) ?_
                     refine pu2 24 (some 87) (bz 37 33554431) ?_
                     refine pu2 25 (some 88) (bz 37 67108863) ?_
                     refine pu2 26 (some 89) (bz 37 134217727) ?_
                     refine pu2 28 (some 91) (bz 37 402653183) ?_
                     refine pu2 29 (some 92) (bz 37 939524095) ?_
                     refine pu2 30 (some 93) (bz 37 2013265919) ?_
                     refine pu2 31 (some 94) (bz 37 4160749567) ?_
                     refine pu2 32 (some 95) (bz 37 8455716863) ?_
                     refine tk2 27 (some 90) (bz 37 8589934591) ?_
                     refine tk2 33 (some 96) (bz 37 17179869183) ?_
                     refine pu2 34 (some 97) (bz 37 34359738367) ?_
                     refine pu2 35 (some 98) (bz 37 68719476735) ?_
                     refine pu2 36 (some 99) (bz 37 137438953471) ?_
                     refine done_ (done_of HT_.out (by kernel_rfl)) ?_
                     try go_wp2
                     go_meet
                     case rel => exact ⟨_, (decide (((rd_T58 l1 x13_1).f0) ≤ ((rd_T58 l1 (ji41)).f0))), (by first | rfl | (simp; done) | (simp only [← hji41] <;> (first | rfl | simp)) | (simp [*]; done)), H', ⟨by have := HK1.out; have := HJ6.out; have := HJ14.out; have := HJ25.out; exact fl⟩, ⟨kp BK197.out⟩, ⟨fb1 GE197⟩⟩
                    ·rw [if_neg c43] at H
                     exact absurd H (by simp)
                   ·rw [if_neg c42] at H
                    exact absurd H (by simp)
                  ·rw [if_neg c40] at H
                   have c40b0 := decide_eq_false c40
                   clear c40
                   have H' := Aside0.mk H
                   clear H
                   try go_wp2
                   have n0_ := Aside0.mk (blk_drew BK197.out)
                   have n1_ := Aside0.mk (below_drew1 HB.out)
                   clear BK197
                   clear HB
                   have BK197 := n0_
                   have HB := n1_
                   clear n0_ n1_
                   refine start_ (n := 37) (S := fun w' => w'.cell? ⟨gb197, 0, none⟩ = some (.int .i64 ((rd_T58 l1 x13_1).f0)) ∧ w'.cell? ⟨gb197, 1, none⟩ = some (.int .i64 ((rd_T58 l1 x13_1).f1)) ∧ w'.cell? ⟨gb197, 2, none⟩ = some (.float .f64 ((rd_T58 l1 x13_1).f2)) ∧ w'.cell? ⟨gb197, 3, none⟩ = some (.int .i64 ((rd_T58 l1 x13_1).f3)) ∧ w'.cell? ⟨gb197, 4, none⟩ = some (.float .f64 ((rd_T58 l1 x13_1).f4)) ∧ w'.cell? ⟨gb197, 5, none⟩ = some (.int .i64 ((rd_T58 l1 x13_1).f5))) (ds := []) (bz 37 0) (by kernel_rfl) rfl rfl ⟨(blk_cell BK197.out 0).trans rfl, (blk_cell BK197.out 1).trans rfl, (blk_cell BK197.out 2).trans rfl, (blk_cell BK197.out 3).trans rfl, (blk_cell BK197.out 4).trans rfl, (blk_cell BK197.out 5).trans rfl⟩ (fun hHeld => ?_); refine with_tabW landdv_may.tab8 landdv_may.bits8 (fun HT_ HW_ => ?_)
                   generalize wc.drew = w45 at BK197 HB hHeld ⊢
                   refine pu2 0 (some 63) (bz 37 1) ?_
                   refine pu2 1 (some 64) (bz 37 3) ?_
                   refine pu2 2 (some 65) (bz 37 7) ?_
                   refine pu2 3 (some 66) (bz 37 15) ?_
                   refine pu2 4 (some 67) (bz 37 31) ?_
                   refine pu2 5 (some 68) (bz 37 63) ?_
                   refine pu2 6 (some 69) (bz 37 127) ?_
                   refine pu2 7 (some 70) (bz 37 255) ?_
                   refine pu2 8 (some 71) (bz 37 511) ?_
                   refine pu2 9 (some 72) (bz 37 1023) ?_
                   refine pu2 10 (some 73) (bz 37 2047) ?_
                   refine pu2 11 (some 74) (bz 37 4095) ?_
                   refine pu2 13 (some 76) (bz 37 12287) ?_
                   refine tk2 12 (some 75) (bz 37 16383) ?_
                   refine pu2 14 (some 77) (bz 37 32767) ?_
                   refine pu2 15 (some 78) (bz 37 65535) ?_
                   refine pu2 16 (some 79) (bz 37 131071) ?_
                   refine pu2 17 (some 80) (bz 37 262143) ?_
                   refine tk2 18 (some 81) (bz 37 524287) ?_
                   refine one_ (i := 19) (N := some 82) (bz 37 1048575) rfl rfl (one_of HT_.out (by kernel_rfl)) (by decide) (fun K hK => ?_)
                   refine goes_ Try.func49 (by kernel_rfl) rfl #[.int .i64 ((rd_T58 l1 x13_1).f0)] (by rfl) rfl rfl (by (try simp only [List.map_toArray, List.map_cons, List.map_nil]); first | done | rfl | (simp only [List.length_drop, List.length_take]; rfl)) ?_
                   with_reducible refine (ident_CheckId.calls kj25 ((rd_T58 l1 x13_1).f0) t201 _ A38.out).mono ?_
                   rintro e w' ⟨rfl, ⟨nd, rfl⟩⟩
                   refine ⟨_, rfl, ?_⟩
                   refine hK.out _ _ ⟨(blk_cell BK197.out 0).trans rfl, (blk_cell BK197.out 1).trans rfl, (blk_cell BK197.out 2).trans rfl, (blk_cell BK197.out 3).trans rfl, (blk_cell BK197.out 4).trans rfl, (blk_cell BK197.out 5).trans rfl⟩ (fun hHeld => ?_)
                   clear hK K
                   refine norm_ (a' := ?_) ?_ ?_; rotate_left; show Act.put _ (some 82) _ = _; simp only [Act.put, qa, qb, qc, i64_w, i32_w]; rfl
                   refine pu2 20 (some 83) (bz 37 2097151) ?_
                   refine pu2 21 (some 84) (bz 37 4194303) ?_
                   refine pu2 22 (some 85) (bz 37 8388607) ?_
                   refine pu2 23 (some 86) (bz 37 16777215) ?_
                   refine pu2 24 (some 87) (bz 37 33554431) ?_
                   refine pu2 25 (some 88) (bz 37 67108863) ?_
                   refine pz2 26 (some 89) (bz 37 134217727) ?_
                   refine pz2 27 (some 90) (bz 37 268435455) ?_
                   refine pz2 28 (some 91) (bz 37 536870911) ?_
                   refine pz2 29 (some 92) (bz 37 1073741823) ?_
                   refine pz2 30 (some 93) (bz 37 2147483647) ?_
                   refine pz2 31 (some 94) (bz 37 4294967295) ?_
                   refine pz2 32 (some 95) (bz 37 8589934591) ?_
                   refine pz2 33 (some 96) (bz 37 17179869183) ?_
                   refine pz2 34 (some 97) (bz 37 34359738367) ?_
                   refine pu2 35 (some 98) (bz 37 68719476735) ?_
                   refine pu2 36 (some 99) (bz 37 137438953471) ?_
                   refine done_ (done_of HT_.out (by kernel_rfl)) ?_
                   try go_wp2
                   go_meet
                   case rel => exact ⟨_, (false), fz, H', ⟨by have := HK1.out; have := HJ6.out; have := HJ14.out; have := HJ25.out; exact fl⟩, ⟨kp BK197.out⟩, ⟨fb1 GE197⟩⟩
                 ·rw [if_neg c39] at H
                  have c39b0 := bh_ c39
                  have c39b1 := bi_ c39
                  have H' := Aside0.mk H
                  clear H
                  try go_wp2
                  have n0_ := Aside0.mk (blk_drew BK197.out)
                  have n1_ := Aside0.mk (below_drew1 HB.out)
                  clear BK197
                  clear HB
                  have BK197 := n0_
                  have HB := n1_
                  clear n0_ n1_
                  refine start_ (n := 37) (S := fun w' => w'.cell? ⟨gb197, 0, none⟩ = some (.int .i64 ((rd_T58 l1 x13_1).f0)) ∧ w'.cell? ⟨gb197, 1, none⟩ = some (.int .i64 ((rd_T58 l1 x13_1).f1)) ∧ w'.cell? ⟨gb197, 2, none⟩ = some (.float .f64 ((rd_T58 l1 x13_1).f2)) ∧ w'.cell? ⟨gb197, 3, none⟩ = some (.int .i64 ((rd_T58 l1 x13_1).f3)) ∧ w'.cell? ⟨gb197, 4, none⟩ = some (.float .f64 ((rd_T58 l1 x13_1).f4)) ∧ w'.cell? ⟨gb197, 5, none⟩ = some (.int .i64 ((rd_T58 l1 x13_1).f5))) (ds := []) (bz 37 0) (by kernel_rfl) rfl rfl ⟨(blk_cell BK197.out 0).trans rfl, (blk_cell BK197.out 1).trans rfl, (blk_cell BK197.out 2).trans rfl, (blk_cell BK197.out 3).trans rfl, (blk_cell BK197.out 4).trans rfl, (blk_cell BK197.out 5).trans rfl⟩ (fun hHeld => ?_); refine with_tabW landdv_may.tab8 landdv_may.bits8 (fun HT_ HW_ => ?_)
                  generalize wc.drew = w46 at BK197 HB hHeld ⊢
                  refine pu2 0 (some 63) (bz 37 1) ?_
                  refine pu2 1 (some 64) (bz 37 3) ?_
                  refine pu2 2 (some 65) (bz 37 7) ?_
                  refine pu2 3 (some 66) (bz 37 15) ?_
                  refine pu2 4 (some 67) (bz 37 31) ?_
                  refine pu2 5 (some 68) (bz 37 63) ?_
                  refine pu2 6 (some 69) (bz 37 127) ?_
                  refine pu2 7 (some 70) (bz 37 255) ?_
                  refine pu2 8 (some 71) (bz 37 511) ?_
                  refine pu2 9 (some 72) (bz 37 1023) ?_
                  refine pu2 10 (some 73) (bz 37 2047) ?_
                  refine pu2 11 (some 74) (bz 37 4095) ?_
                  refine pu2 13 (some 76) (bz 37 12287) ?_
                  refine tk2 12 (some 75) (bz 37 16383) ?_
                  refine pu2 14 (some 77) (bz 37 32767) ?_
                  refine pu2 15 (some 78) (bz 37 65535) ?_
                  refine pu2 16 (some 79) (bz 37 131071) ?_
                  refine pu2 17 (some 80) (bz 37 262143) ?_
                  refine tk2 18 (some 81) (bz 37 524287) ?_
                  refine one_ (i := 19) (N := some 82) (bz 37 1048575) rfl rfl (one_of HT_.out (by kernel_rfl)) (by decide) (fun K hK => ?_)
                  refine goes_ Try.func49 (by kernel_rfl) rfl #[.int .i64 ((rd_T58 l1 x13_1).f0)] (by rfl) rfl rfl (by (try simp only [List.map_toArray, List.map_cons, List.map_nil]); first | done | rfl | (simp only [List.length_drop, List.length_take]; rfl)) ?_
                  with_reducible refine (ident_CheckId.calls kj25 ((rd_T58 l1 x13_1).f0) t201 _ A38.out).mono ?_
                  rintro e w' ⟨rfl, ⟨nd, rfl⟩⟩
                  refine ⟨_, rfl, ?_⟩
                  refine hK.out _ _ ⟨(blk_cell BK197.out 0).trans rfl, (blk_cell BK197.out 1).trans rfl, (blk_cell BK197.out 2).trans rfl, (blk_cell BK197.out 3).trans rfl, (blk_cell BK197.out 4).trans rfl, (blk_cell BK197.out 5).trans rfl⟩ (fun hHeld => ?_)
                  clear hK K
                  refine norm_ (a' := ?_) ?_ ?_; rotate_left; show Act.put _ (some 82) _ = _; simp only [Act.put, qa, qb, qc, i64_w, i32_w]; rfl
                  refine pu2 20 (some 83) (bz 37 2097151) ?_
                  refine pu2 21 (some 84) (bz 37 4194303) ?_
                  refine pu2 22 (some 85) (bz 37 8388607) ?_
                  refine pz2 23 (some 86) (bz 37 16777215) ?_
                  refine pz2 24 (some 87) (bz 37 33554431) ?_
                  refine pz2 25 (some 88) (bz 37 67108863) ?_
                  refine pz2 26 (some 89) (bz 37 134217727) ?_
                  refine pz2 27 (some 90) (bz 37 268435455) ?_
                  refine pz2 28 (some 91) (bz 37 536870911) ?_
                  refine pz2 29 (some 92) (bz 37 1073741823) ?_
                  refine pz2 30 (some 93) (bz 37 2147483647) ?_
                  refine pz2 31 (some 94) (bz 37 4294967295) ?_
                  refine pz2 32 (some 95) (bz 37 8589934591) ?_
                  refine pz2 33 (some 96) (bz 37 17179869183) ?_
                  refine pz2 34 (some 97) (bz 37 34359738367) ?_
                  refine pz2 35 (some 98) (bz 37 68719476735) ?_
                  refine pu2 36 (some 99) (bz 37 137438953471) ?_
                  refine done_ (done_of HT_.out (by kernel_rfl)) ?_
                  try go_wp2
                  go_meet
                  case rel => exact ⟨_, (true), fz, H', ⟨by have := HK1.out; have := HJ6.out; have := HJ14.out; have := HJ25.out; exact fl⟩, ⟨kp BK197.out⟩, ⟨fb1 GE197⟩⟩
               ·obtain rfl := bf_ c35
                rw [if_neg nf_] at H
                have H' := Aside0.mk H
                clear H
                try go_wp2
                have n0_ := Aside0.mk (blk_drew BK197.out)
                have n1_ := Aside0.mk (below_drew1 HB.out)
                clear BK197
                clear HB
                have BK197 := n0_
                have HB := n1_
                clear n0_ n1_
                refine start_ (n := 37) (S := fun w' => True) (ds := []) (bz 37 0) (by kernel_rfl) rfl rfl trivial (fun hHeld => ?_); refine with_tabW landdv_may.tab8 landdv_may.bits8 (fun HT_ HW_ => ?_)
                generalize wc.drew = w47 at BK197 HB hHeld ⊢
                refine pu2 0 (some 63) (bz 37 1) ?_
                refine pu2 1 (some 64) (bz 37 3) ?_
                refine pu2 2 (some 65) (bz 37 7) ?_
                refine pu2 3 (some 66) (bz 37 15) ?_
                refine pu2 4 (some 67) (bz 37 31) ?_
                refine pu2 5 (some 68) (bz 37 63) ?_
                refine pu2 6 (some 69) (bz 37 127) ?_
                refine pu2 7 (some 70) (bz 37 255) ?_
                refine pu2 8 (some 71) (bz 37 511) ?_
                refine pu2 9 (some 72) (bz 37 1023) ?_
                refine pu2 10 (some 73) (bz 37 2047) ?_
                refine pz2 11 (some 74) (bz 37 4095) ?_
                refine pz2 12 (some 75) (bz 37 8191) ?_
                refine pz2 13 (some 76) (bz 37 16383) ?_
                refine pz2 14 (some 77) (bz 37 32767) ?_
                refine pu2 15 (some 78) (bz 37 65535) ?_
                refine pu2 16 (some 79) (bz 37 131071) ?_
                refine pz2 17 (some 80) (bz 37 262143) ?_
                refine pz2 18 (some 81) (bz 37 524287) ?_
                refine pz2 19 (some 82) (bz 37 1048575) ?_
                refine pz2 20 (some 83) (bz 37 2097151) ?_
                refine pu2 21 (some 84) (bz 37 4194303) ?_
                refine pu2 22 (some 85) (bz 37 8388607) ?_
                refine pz2 23 (some 86) (bz 37 16777215) ?_
                refine pz2 24 (some 87) (bz 37 33554431) ?_
                refine pz2 25 (some 88) (bz 37 67108863) ?_
                refine pz2 26 (some 89) (bz 37 134217727) ?_
                refine pz2 27 (some 90) (bz 37 268435455) ?_
                refine pz2 28 (some 91) (bz 37 536870911) ?_
                refine pz2 29 (some 92) (bz 37 1073741823) ?_
                refine pz2 30 (some 93) (bz 37 2147483647) ?_
                refine pz2 31 (some 94) (bz 37 4294967295) ?_
                refine pz2 32 (some 95) (bz 37 8589934591) ?_
                refine pz2 33 (some 96) (bz 37 17179869183) ?_
                refine pz2 34 (some 97) (bz 37 34359738367) ?_
                refine pz2 35 (some 98) (bz 37 68719476735) ?_
                refine pu2 36 (some 99) (bz 37 137438953471) ?_
                refine done_ (done_of HT_.out (by kernel_rfl)) ?_
                try go_wp2
                go_meet
                case rel => exact ⟨_, (true), fz, H', ⟨by have := HK1.out; have := HJ6.out; have := HJ14.out; have := HJ25.out; exact fl⟩, ⟨kp BK197.out⟩, ⟨fb1 GE197⟩⟩
              ·obtain rfl := bf_ c34
               rw [if_neg nf_] at H
               have H' := Aside0.mk H
               clear H
               try go_wp2
               have n0_ := Aside0.mk (blk_drew BK197.out)
               have n1_ := Aside0.mk (below_drew1 HB.out)
               clear BK197
               clear HB
               have BK197 := n0_
               have HB := n1_
               clear n0_ n1_
               refine start_ (n := 37) (S := fun w' => True) (ds := []) (bz 37 0) (by kernel_rfl) rfl rfl trivial (fun hHeld => ?_); refine with_tabW landdv_may.tab8 landdv_may.bits8 (fun HT_ HW_ => ?_)
               generalize wc.drew = w48 at BK197 HB hHeld ⊢
               refine pu2 0 (some 63) (bz 37 1) ?_
               refine pu2 1 (some 64) (bz 37 3) ?_
               refine pu2 2 (some 65) (bz 37 7) ?_
               refine pu2 3 (some 66) (bz 37 15) ?_
               refine pu2 4 (some 67) (bz 37 31) ?_
               refine pu2 5 (some 68) (bz 37 63) ?_
               refine pu2 6 (some 69) (bz 37 127) ?_
               refine pz2 7 (some 70) (bz 37 255) ?_
               refine pz2 8 (some 71) (bz 37 511) ?_
               refine pu2 9 (some 72) (bz 37 1023) ?_
               refine pu2 10 (some 73) (bz 37 2047) ?_
               refine pz2 11 (some 74) (bz 37 4095) ?_
               refine pz2 12 (some 75) (bz 37 8191) ?_
               refine pz2 13 (some 76) (bz 37 16383) ?_
               refine pz2 14 (some 77) (bz 37 32767) ?_
               refine pu2 15 (some 78) (bz 37 65535) ?_
               refine pu2 16 (some 79) (bz 37 131071) ?_
               refine pz2 17 (some 80) (bz 37 262143) ?_
               refine pz2 18 (some 81) (bz 37 524287) ?_
               refine pz2 19 (some 82) (bz 37 1048575) ?_
               refine pz2 20 (some 83) (bz 37 2097151) ?_
               refine pu2 21 (some 84) (bz 37 4194303) ?_
               refine pu2 22 (some 85) (bz 37 8388607) ?_
               refine pz2 23 (some 86) (bz 37 16777215) ?_
               refine pz2 24 (some 87) (bz 37 33554431) ?_
               refine pz2 25 (some 88) (bz 37 67108863) ?_
               refine pz2 26 (some 89) (bz 37 134217727) ?_
               refine pz2 27 (some 90) (bz 37 268435455) ?_
               refine pz2 28 (some 91) (bz 37 536870911) ?_
               refine pz2 29 (some 92) (bz 37 1073741823) ?_
               refine pz2 30 (some 93) (bz 37 2147483647) ?_
               refine pz2 31 (some 94) (bz 37 4294967295) ?_
               refine pz2 32 (some 95) (bz 37 8589934591) ?_
               refine pz2 33 (some 96) (bz 37 17179869183) ?_
               refine pz2 34 (some 97) (bz 37 34359738367) ?_
               refine pz2 35 (some 98) (bz 37 68719476735) ?_
               refine pu2 36 (some 99) (bz 37 137438953471) ?_
               refine done_ (done_of HT_.out (by kernel_rfl)) ?_
               try go_wp2
               go_meet
               case rel => exact ⟨_, (true), fz, H', ⟨by have := HK1.out; have := HJ6.out; have := HJ14.out; have := HJ25.out; exact fl⟩, ⟨kp BK197.out⟩, ⟨fb1 GE197⟩⟩
             ·obtain rfl := bf_ c33
              rw [if_neg nf_] at H
              have H' := Aside0.mk H
              clear H
              try go_wp2
              have n0_ := Aside0.mk (blk_drew BK197.out)
              have n1_ := Aside0.mk (below_drew1 HB.out)
              clear BK197
              clear HB
              have BK197 := n0_
              have HB := n1_
              clear n0_ n1_
              refine start_ (n := 37) (S := fun w' => True) (ds := []) (bz 37 0) (by kernel_rfl) rfl rfl trivial (fun hHeld => ?_); refine with_tabW landdv_may.tab8 landdv_may.bits8 (fun HT_ HW_ => ?_)
              generalize wc.drew = w49 at BK197 HB hHeld ⊢
              refine pu2 0 (some 63) (bz 37 1) ?_
              refine pu2 1 (some 64) (bz 37 3) ?_
              refine pu2 2 (some 65) (bz 37 7) ?_
              refine pz2 3 (some 66) (bz 37 15) ?_
              refine pz2 4 (some 67) (bz 37 31) ?_
              refine pu2 5 (some 68) (bz 37 63) ?_
              refine pu2 6 (some 69) (bz 37 127) ?_
              refine pz2 7 (some 70) (bz 37 255) ?_
              refine pz2 8 (some 71) (bz 37 511) ?_
              refine pu2 9 (some 72) (bz 37 1023) ?_
              refine pu2 10 (some 73) (bz 37 2047) ?_
              refine pz2 11 (some 74) (bz 37 4095) ?_
              refine pz2 12 (some 75) (bz 37 8191) ?_
              refine pz2 13 (some 76) (bz 37 16383) ?_
              refine pz2 14 (some 77) (bz 37 32767) ?_
              refine pu2 15 (some 78) (bz 37 65535) ?_
              refine pu2 16 (some 79) (bz 37 131071) ?_
              refine pz2 17 (some 80) (bz 37 262143) ?_
              refine pz2 18 (some 81) (bz 37 524287) ?_
              refine pz2 19 (some 82) (bz 37 1048575) ?_
              refine pz2 20 (some 83) (bz 37 2097151) ?_
              refine pu2 21 (some 84) (bz 37 4194303) ?_
              refine pu2 22 (some 85) (bz 37 8388607) ?_
              refine pz2 23 (some 86) (bz 37 16777215) ?_
              refine pz2 24 (some 87) (bz 37 33554431) ?_
              refine pz2 25 (some 88) (bz 37 67108863) ?_
              refine pz2 26 (some 89) (bz 37 134217727) ?_
              refine pz2 27 (some 90) (bz 37 268435455) ?_
              refine pz2 28 (some 91) (bz 37 536870911) ?_
              refine pz2 29 (some 92) (bz 37 1073741823) ?_
              refine pz2 30 (some 93) (bz 37 2147483647) ?_
              refine pz2 31 (some 94) (bz 37 4294967295) ?_
              refine pz2 32 (some 95) (bz 37 8589934591) ?_
              refine pz2 33 (some 96) (bz 37 17179869183) ?_
              refine pz2 34 (some 97) (bz 37 34359738367) ?_
              refine pz2 35 (some 98) (bz 37 68719476735) ?_
              refine pu2 36 (some 99) (bz 37 137438953471) ?_
              refine done_ (done_of HT_.out (by kernel_rfl)) ?_
              try go_wp2
              go_meet
              case rel => exact ⟨_, (true), fz, H', ⟨by have := HK1.out; have := HJ6.out; have := HJ14.out; have := HJ25.out; exact fl⟩, ⟨kp BK197.out⟩, ⟨fb1 GE197⟩⟩
            case rest =>
             clear HC32
             (try clear c3)
             obtain ⟨kq, x99_31, rfl, HA, HJ31, BK197, HB⟩ := hcut
             cases kq with
             | zero => exact absurd HA.out (by simp [landdv_may.j4])
             | succ kj31 =>
              have H := HA.out
              clear HA
              simp only [landdv_may.j4] at H
              by_cases c50 : x99_31 = true
              ·subst c50
               rw [if_pos rfl] at H
               obtain rfl := oj_ H
               go_wp2
               go_ret
               exact ⟨fe, fb1 GE197⟩
              ·obtain rfl := bf_ c50
               rw [if_neg nf_] at H
               have H' := Aside0.mk H
               clear H
               go_wp2
               go_roundg kj31
               case measure => have := HK1.out; have := HJ6.out; have := HJ14.out; have := HJ25.out; have := HJ31.out; omega
               case rel => exact ⟨(wrap64 (x13_1 + 1)), fz, H', ⟨by have := HK1.out; have := HJ6.out; have := HJ14.out; have := HJ25.out; have := HJ31.out; omega⟩, ⟨fb1 GE197⟩⟩
     ·rw [if_neg c5] at H
      exact absurd H (by simp)
    ·rw [if_neg c4] at H
     exact absurd H (by simp)
   ·rw [if_neg c3] at H
    have c3b0 := decide_eq_false c3
    clear c3
    obtain rfl := oj_ H
    go_wp2
    go_ret
    exact ⟨fe, fb⟩

end Go.Proofs.Ytjkhckbfkinheaa.GAa
