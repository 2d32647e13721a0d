-- written by a program of this session (wip/pp): see NOTES.md
import Derived.Test.YtjkhckbfkinheaaGAax0
import Derived.Test.YtjkhckbfkinheaaGAax2
import Derived.Test.YtjkhckbfkinheaaGAax3
namespace Go.Proofs.Ytjkhckbfkinheaa.GAa
open Go.RowKit Go.Proofs.YtjkhckbfkinheaaW.PrintWords Go.Proofs.YtjkhckbfkinheaaW.PrintLast Go.Proofs.YtjkhckbfkinheaaW.PrintMore
attribute [local go_sem] max2_int min2_int max_two min_two max_three min_three max_four min_four   -- for this text's walks alone
attribute [local go_sem high] binOp_flss binOp_fgtr binOp_fleq binOp_fgeq binOp_feql binOp_fneq run_fadd run_fsub run_fmul run_fquo unary_fneg run_ftoint run_fofint run_feqIn ext_bits ext_frombits ext_trunc
set_option linter.unusedVariables false
set_option linter.unusedSimpArgs false

/-! ### message_news: function 141 -/
mutual
def message_news.j0 : Nat → Bool → Int → Int → Nat → Nat → Int → Option (Bool)
 | 0, _, _, _, _, _, _ => none
 | k + 1, x22, x117000, x117001, x117002, x117003, x117004 => if x22 = true then (some false) else (if x117001 = 1 then (message_news.j1 k true x117000 x117001 x117002 x117003 x117004) else ((math_IsInf.f x117002 1).bind fun t120 => (message_news.j1 k t120 x117000 x117001 x117002 x117003 x117004)))
def message_news.j1 : Nat → Bool → Int → Int → Nat → Nat → Int → Option (Bool)
 | 0, _, _, _, _, _, _ => none
 | k + 1, x30, x117000, x117001, x117002, x117003, x117004 => if x30 = true then (if (x117003 : Int) = 0 then (some (x117004 == 0)) else (some false)) else ((math_IsInf.f x117003 1).bind fun t121 => (if t121 = true then (some (x117004 == 0)) else ((message_distance.f k x117003).bind fun t122 => (if t122 = true then ((message_number.f k x117004).bind fun t123 => (some t123)) else (some false)))))
end
def message_news.f (k : Nat) (a0_0 : Int) (a0_1 : Int) (a0_2 : Nat) (a0_3 : Nat) (a0_4 : Int) : Option (Bool) := (message_number.f k a0_0).bind fun t117 => (if t117 = true then (if a0_1 = 1 then ((message_distance.f k a0_2).bind fun t118 => (message_news.j0 k (!t118) a0_0 a0_1 a0_2 a0_3 a0_4)) else (if a0_1 = 2 then ((message_distance.f k a0_2).bind fun t119 => (message_news.j0 k (!t119) a0_0 a0_1 a0_2 a0_3 a0_4)) else (message_news.j0 k true a0_0 a0_1 a0_2 a0_3 a0_4))) else (message_news.j0 k true a0_0 a0_1 a0_2 a0_3 a0_4))
theorem message_news.mono_l : ∀ k, (∀ y0 y1 y2 y3 y4 y5, LeO (message_news.j0 k y0 y1 y2 y3 y4 y5) (message_news.j0 (k + 1) y0 y1 y2 y3 y4 y5)) ∧ (∀ y0 y1 y2 y3 y4 y5, LeO (message_news.j1 k y0 y1 y2 y3 y4 y5) (message_news.j1 (k + 1) y0 y1 y2 y3 y4 y5))
 | 0 => ⟨fun _ _ _ _ _ _ r h => by simp [message_news.j0] at h, fun _ _ _ _ _ _ r h => by simp [message_news.j1] at h⟩
 | k + 1 => by
  obtain ⟨ih0, ih1⟩ := message_news.mono_l k
  refine ⟨?_, ?_⟩
  ·intro y0 y1 y2 y3 y4 y5
   unfold message_news.j0
   repeat' first
   | (with_reducible exact ih0 _ _ _ _ _ _)
   | (with_reducible exact ih1 _ _ _ _ _ _)
   | (with_reducible exact message_distance.mono _ _)
   | (with_reducible exact message_number.mono _ _)
   | (with_reducible exact LeO.refl _)
   | (with_reducible exact LeO.none _)
   | (with_reducible refine LeO.ite ?_ ?_)
   | (with_reducible refine LeO.bind ?_ (fun _ => ?_))
   | exact ih0 _ _ _ _ _ _
   | exact ih1 _ _ _ _ _ _
   | exact message_distance.mono _ _
   | exact message_number.mono _ _
   | exact LeO.none _
   | refine LeO.ite ?_ ?_
   | refine LeO.bind ?_ (fun _ => ?_)
  ·intro y0 y1 y2 y3 y4 y5
   unfold message_news.j1
   repeat' first
   | (with_reducible exact ih0 _ _ _ _ _ _)
   | (with_reducible exact ih1 _ _ _ _ _ _)
   | (with_reducible exact message_distance.mono _ _)
   | (with_reducible exact message_number.mono _ _)
   | (with_reducible exact LeO.refl _)
   | (with_reducible exact LeO.none _)
   | (with_reducible refine LeO.ite ?_ ?_)
   | (with_reducible refine LeO.bind ?_ (fun _ => ?_))
   | exact ih0 _ _ _ _ _ _
   | exact ih1 _ _ _ _ _ _
   | exact message_distance.mono _ _
   | exact message_number.mono _ _
   | exact LeO.none _
   | refine LeO.ite ?_ ?_
   | refine LeO.bind ?_ (fun _ => ?_)
theorem message_news.mono : ∀ a0 a1 a2 a3 a4 k, LeO (message_news.f k a0 a1 a2 a3 a4) (message_news.f (k + 1) a0 a1 a2 a3 a4) := by
 intro a0 a1 a2 a3 a4 k
 obtain ⟨ih0, ih1⟩ := message_news.mono_l k
 unfold message_news.f
 repeat' first
   | (with_reducible exact ih0 _ _ _ _ _ _)
   | (with_reducible exact ih1 _ _ _ _ _ _)
   | (with_reducible exact message_distance.mono _ _)
   | (with_reducible exact message_number.mono _ _)
   | (with_reducible exact LeO.refl _)
   | (with_reducible exact LeO.none _)
   | (with_reducible refine LeO.ite ?_ ?_)
   | (with_reducible refine LeO.bind ?_ (fun _ => ?_))
   | exact ih0 _ _ _ _ _ _
   | exact ih1 _ _ _ _ _ _
   | exact message_distance.mono _ _
   | exact message_number.mono _ _
   | exact LeO.none _
   | refine LeO.ite ?_ ?_
   | refine LeO.bind ?_ (fun _ => ?_)
set_option maxHeartbeats 8000000 in
set_option maxRecDepth 100000 in
theorem message_news.calls (k : Nat) (a0_0 : Int) (a0_1 : Int) (a0_2 : Nat) (a0_3 : Nat) (a0_4 : Int) (r : Bool) (w : World) (h : message_news.f k a0_0 a0_1 a0_2 a0_3 a0_4 = some r) :
  Calls Try.prog 141 #[.agg #[.int .i64 a0_0, .int .i64 a0_1, .float .f64 a0_2, .float .f64 a0_3, .int .i64 a0_4]] w fun e w' => e = .returned (.bool r) ∧ Below w.heap.size w w' := by
 have hu56 := Try.underlying56
 have HB := Aside0.mk (Below.refl w.heap.size w)
 have H : ((message_number.f k a0_0).bind fun t117 => (if t117 = true then (if a0_1 = 1 then ((message_distance.f k a0_2).bind fun t118 => (message_news.j0 k (!t118) a0_0 a0_1 a0_2 a0_3 a0_4)) else (if a0_1 = 2 then ((message_distance.f k a0_2).bind fun t119 => (message_news.j0 k (!t119) a0_0 a0_1 a0_2 a0_3 a0_4)) else (message_news.j0 k true a0_0 a0_1 a0_2 a0_3 a0_4))) else (message_news.j0 k true a0_0 a0_1 a0_2 a0_3 a0_4))) = some r := h
 clear h
 have HC2 := Aside0.mk H
 clear H
 go_enter Try.func141, Try.ntmps141
 go_upto_region 1 with (first | ((with_reducible refine gate_dst (N := 1) rfl ?_); refine bx_ (N := 1) #[.int .i64 a0_0, .int .i64 a0_1, .float .f64 a0_2, .float .f64 a0_3, .int .i64 a0_4] 56 ⟨fb⟩ ?_; clear HB; intro gb116 w3 HB BK116 GE116; have GW116 := GE116))
 (try simp only [Act.put, qa, qb, qc])
 go_cut [22] (fun v22 wc => ∃ (kq : Nat) (x22_1 : Bool), v22 = .bool x22_1 ∧ Aside0 (message_news.j0 kq x22_1 a0_0 a0_1 a0_2 a0_3 a0_4 = some r) ∧ Aside0 (kq ≤ k) ∧ Aside0 (wc.heap[gb116]? = some (.cells #[.int .i64 a0_0, .int .i64 a0_1, .float .f64 a0_2, .float .f64 a0_3, .int .i64 a0_4] 56 (0, 0))) ∧ Aside0 (Below w.heap.size w wc))
 case first =>
  have H := HC2.out
  clear HC2
  replace H := bs_ H; obtain ⟨t117, A4, H⟩ := H
  by_cases c5 : t117 = true
  ·subst c5
   rw [if_pos rfl] at H
   by_cases c6 : a0_1 = 1
   ·rw [if_pos c6] at H
    have c6b0 := be_ c6
    have c6b1 := bg_ c6
    clear c6
    (first | rw [c6b0] | (simp only [i64_w, i32_w]; rw [c6b0]) | skip)
    replace H := bs_ H; obtain ⟨t118, A7, H⟩ := H
    have H' := Aside0.mk H
    clear H
    obtain ⟨hcz8_0, hcz8_1, hcz8_2, hcz8_3, hcz8_4, hfz8_0, hfz8_1, hfz8_2, hfz8_3, hfz8_4⟩ := cz5 BK116.out
    go_wp2_with (first | ((with_reducible refine gate_callee (f := 155) rfl ?_); refine gl_ (some 5) Try.func155 #[.int .i64 a0_0] ?_; (with_reducible refine (message_number.calls k a0_0 true _ A4.out).mono ?_); rintro e w' ⟨rfl, ⟨nd, rfl⟩⟩; refine ⟨_, rfl, ?_⟩) | (go_at_call 156; (with_reducible refine (message_distance.calls k a0_2 t118 _ A7.out).mono ?_); rintro e w' ⟨rfl, ⟨nd, rfl⟩⟩))
    go_meet
    case rel => exact ⟨_, (!t118), fz, H', ⟨fl⟩, ⟨kp BK116.out⟩, ⟨fb1 GE116⟩⟩
   ·rw [if_neg c6] at H
    have c6b0 := bh_ c6
    have c6b1 := bi_ c6
    (first | rw [c6b0] | (simp only [i64_w, i32_w]; rw [c6b0]) | skip)
    by_cases c9 : a0_1 = 2
    ·rw [if_pos c9] at H
     have c9b0 := be_ c9
     have c9b1 := bg_ c9
     clear c9
     replace H := bs_ H; obtain ⟨t119, A10, H⟩ := H
     have H' := Aside0.mk H
     clear H
     obtain ⟨hcz11_0, hcz11_1, hcz11_2, hcz11_3, hcz11_4, hfz11_0, hfz11_1, hfz11_2, hfz11_3, hfz11_4⟩ := cz5 BK116.out
     go_wp2_with (first | ((with_reducible refine gate_callee (f := 155) rfl ?_); refine gl_ (some 5) Try.func155 #[.int .i64 a0_0] ?_; (with_reducible refine (message_number.calls k a0_0 true _ A4.out).mono ?_); rintro e w' ⟨rfl, ⟨nd, rfl⟩⟩; refine ⟨_, rfl, ?_⟩) | (go_at_call 156; (with_reducible refine (message_distance.calls k a0_2 t119 _ A10.out).mono ?_); rintro e w' ⟨rfl, ⟨nd, rfl⟩⟩))
     go_meet
     case rel => exact ⟨_, (!t119), fz, H', ⟨fl⟩, ⟨kp BK116.out⟩, ⟨fb1 GE116⟩⟩
    ·rw [if_neg c9] at H
     have c9b0 := bh_ c9
     have c9b1 := bi_ c9
     have H' := Aside0.mk H
     clear H
     obtain ⟨hcz12_0, hcz12_1, hcz12_2, hcz12_3, hcz12_4, hfz12_0, hfz12_1, hfz12_2, hfz12_3, hfz12_4⟩ := cz5 BK116.out
     go_wp2_with (first | ((with_reducible refine gate_callee (f := 155) rfl ?_); refine gl_ (some 5) Try.func155 #[.int .i64 a0_0] ?_; (with_reducible refine (message_number.calls k a0_0 true _ A4.out).mono ?_); rintro e w' ⟨rfl, ⟨nd, rfl⟩⟩; refine ⟨_, rfl, ?_⟩))
     go_meet
     case rel => exact ⟨_, (true), fz, H', ⟨fl⟩, ⟨kp BK116.out⟩, ⟨fb1 GE116⟩⟩
  ·obtain rfl := bf_ c5
   rw [if_neg nf_] at H
   have H' := Aside0.mk H
   clear H
   obtain ⟨hcz13_0, hcz13_1, hcz13_2, hcz13_3, hcz13_4, hfz13_0, hfz13_1, hfz13_2, hfz13_3, hfz13_4⟩ := cz5 BK116.out
   go_wp2_with (first | ((with_reducible refine gate_callee (f := 155) rfl ?_); refine gl_ (some 5) Try.func155 #[.int .i64 a0_0] ?_; (with_reducible refine (message_number.calls k a0_0 false _ A4.out).mono ?_); rintro e w' ⟨rfl, ⟨nd, rfl⟩⟩; refine ⟨_, rfl, ?_⟩))
   go_meet
   case rel => exact ⟨_, (true), fz, H', ⟨fl⟩, ⟨kp BK116.out⟩, ⟨fb1 GE116⟩⟩
 case rest =>
  clear HC2
  obtain ⟨kq, x22_1, rfl, HA, HJ1, BK116, HB⟩ := hcut
  cases kq with
  | zero => exact absurd HA.out (by simp [message_news.j0])
  | succ kj1 =>
   have H := HA.out
   clear HA
   simp only [message_news.j0] at H
   by_cases c14 : x22_1 = true
   ·subst c14
    rw [if_pos rfl] at H
    obtain rfl := oj_ H
    go_wp2
    go_ret
    exact ⟨fe, fb1 GE116⟩
   ·obtain rfl := bf_ c14
    rw [if_neg nf_] at H
    have HC15 := Aside0.mk H
    clear H
    go_upto_region 3 with (fail)
    go_cut [30] (fun v30 wc => ∃ (kq : Nat) (x30_14 : Bool), v30 = .bool x30_14 ∧ Aside0 (message_news.j1 kq x30_14 a0_0 a0_1 a0_2 a0_3 a0_4 = some r) ∧ Aside0 (kq ≤ kj1) ∧ Aside0 (wc.heap[gb116]? = some (.cells #[.int .i64 a0_0, .int .i64 a0_1, .float .f64 a0_2, .float .f64 a0_3, .int .i64 a0_4] 56 (0, 0))) ∧ Aside0 (Below w.heap.size w wc))
    case first =>
     have H := HC15.out
     clear HC15
     by_cases c16 : a0_1 = 1
     ·rw [if_pos c16] at H
      have c16b0 := be_ c16
      have c16b1 := bg_ c16
      clear c16
      (first | rw [c16b0] | (simp only [i64_w, i32_w]; rw [c16b0]) | skip)
      have H' := Aside0.mk H
      clear H
      obtain ⟨hcz17_0, hcz17_1, hcz17_2, hcz17_3, hcz17_4, hfz17_0, hfz17_1, hfz17_2, hfz17_3, hfz17_4⟩ := cz5 BK116.out
      go_wp2
      go_meet
      case rel => exact ⟨_, (true), fz, H', ⟨by have := HJ1.out; exact fl⟩, ⟨kp BK116.out⟩, ⟨fb1 GE116⟩⟩
     ·rw [if_neg c16] at H
      have c16b0 := bh_ c16
      have c16b1 := bi_ c16
      (first | rw [c16b0] | (simp only [i64_w, i32_w]; rw [c16b0]) | skip)
      replace H := bs_ H; obtain ⟨t120, A18, H⟩ := H
      have H' := Aside0.mk H
      clear H
      obtain ⟨hcz19_0, hcz19_1, hcz19_2, hcz19_3, hcz19_4, hfz19_0, hfz19_1, hfz19_2, hfz19_3, hfz19_4⟩ := cz5 BK116.out
      go_wp2_with (first | (go_at_call 62; (with_reducible refine (math_IsInf.calls a0_2 1 t120 _ A18.out).mono ?_); rintro e w' ⟨rfl, ⟨nd, rfl⟩⟩))
      go_meet
      case rel => exact ⟨_, (t120), fz, H', ⟨by have := HJ1.out; exact fl⟩, ⟨kp BK116.out⟩, ⟨fb1 GE116⟩⟩
    case rest =>
     clear HC15
     (try clear c14)
     obtain ⟨kq, x30_14, rfl, HA, HJ14, BK116, HB⟩ := hcut
     cases kq with
     | zero => exact absurd HA.out (by simp [message_news.j1])
     | succ kj14 =>
      have H := HA.out
      clear HA
      simp only [message_news.j1] at H
      by_cases c20 : x30_14 = true
      ·subst c20
       rw [if_pos rfl] at H
       by_cases c21 : (a0_3 : Int) = 0
       ·rw [if_pos c21] at H
        have c21b0 := be_ c21
        have c21b1 := bg_ c21
        clear c21
        obtain rfl := oj_ H
        obtain ⟨hcz22_0, hcz22_1, hcz22_2, hcz22_3, hcz22_4, hfz22_0, hfz22_1, hfz22_2, hfz22_3, hfz22_4⟩ := cz5 BK116.out
        go_wp2
        go_ret
        exact ⟨fe, fb1 GE116⟩
       ·rw [if_neg c21] at H
        have c21b0 := bh_ c21
        have c21b1 := bi_ c21
        obtain rfl := oj_ H
        obtain ⟨hcz23_0, hcz23_1, hcz23_2, hcz23_3, hcz23_4, hfz23_0, hfz23_1, hfz23_2, hfz23_3, hfz23_4⟩ := cz5 BK116.out
        go_wp2
        go_ret
        exact ⟨fe, fb1 GE116⟩
      ·obtain rfl := bf_ c20
       rw [if_neg nf_] at H
       replace H := bs_ H; obtain ⟨t121, A24, H⟩ := H
       by_cases c25 : t121 = true
       ·subst c25
        rw [if_pos rfl] at H
        obtain rfl := oj_ H
        obtain ⟨hcz26_0, hcz26_1, hcz26_2, hcz26_3, hcz26_4, hfz26_0, hfz26_1, hfz26_2, hfz26_3, hfz26_4⟩ := cz5 BK116.out
        go_wp2_with (first | ((with_reducible refine gate_callee (f := 62) rfl ?_); refine gl_ (some 42) Try.func62 #[.float .f64 a0_3, .int .i64 1] ?_; (with_reducible refine (math_IsInf.calls a0_3 1 true _ A24.out).mono ?_); rintro e w' ⟨rfl, ⟨nd, rfl⟩⟩; refine ⟨_, rfl, ?_⟩))
        go_ret
        exact ⟨fe, fb1 GE116⟩
       ·obtain rfl := bf_ c25
        rw [if_neg nf_] at H
        replace H := bs_ H; obtain ⟨t122, A27, H⟩ := H
        by_cases c28 : t122 = true
        ·subst c28
         rw [if_pos rfl] at H
         replace H := bs_ H; obtain ⟨t123, A29, H⟩ := H
         obtain rfl := oj_ H
         obtain ⟨hcz30_0, hcz30_1, hcz30_2, hcz30_3, hcz30_4, hfz30_0, hfz30_1, hfz30_2, hfz30_3, hfz30_4⟩ := cz5 BK116.out
         go_wp2_with (first | ((with_reducible refine gate_callee (f := 62) rfl ?_); refine gl_ (some 42) Try.func62 #[.float .f64 a0_3, .int .i64 1] ?_; (with_reducible refine (math_IsInf.calls a0_3 1 false _ A24.out).mono ?_); rintro e w' ⟨rfl, ⟨nd, rfl⟩⟩; refine ⟨_, rfl, ?_⟩) | ((with_reducible refine gate_callee (f := 156) rfl ?_); refine gl_ (some 48) Try.func156 #[.float .f64 a0_3] ?_; (with_reducible refine (message_distance.calls kj14 a0_3 true _ A27.out).mono ?_); rintro e w' ⟨rfl, ⟨nd, rfl⟩⟩; refine ⟨_, rfl, ?_⟩) | (go_at_call 155; (with_reducible refine (message_number.calls kj14 a0_4 t123 _ A29.out).mono ?_); rintro e w' ⟨rfl, ⟨nd, rfl⟩⟩))
         go_ret
         exact ⟨fe, fb1 GE116⟩
        ·obtain rfl := bf_ c28
         rw [if_neg nf_] at H
         obtain rfl := oj_ H
         obtain ⟨hcz31_0, hcz31_1, hcz31_2, hcz31_3, hcz31_4, hfz31_0, hfz31_1, hfz31_2, hfz31_3, hfz31_4⟩ := cz5 BK116.out
         go_wp2_with (first | ((with_reducible refine gate_callee (f := 62) rfl ?_); refine gl_ (some 42) Try.func62 #[.float .f64 a0_3, .int .i64 1] ?_; (with_reducible refine (math_IsInf.calls a0_3 1 false _ A24.out).mono ?_); rintro e w' ⟨rfl, ⟨nd, rfl⟩⟩; refine ⟨_, rfl, ?_⟩) | ((with_reducible refine gate_callee (f := 156) rfl ?_); refine gl_ (some 48) Try.func156 #[.float .f64 a0_3] ?_; (with_reducible refine (message_distance.calls kj14 a0_3 false _ A27.out).mono ?_); rintro e w' ⟨rfl, ⟨nd, rfl⟩⟩; refine ⟨_, rfl, ?_⟩))
         go_ret
         exact ⟨fe, fb1 GE116⟩

/-! ### message_ahead: function 142 -/
def message_ahead.f (a0_0 : Int) (a0_1 : Int) (a0_2 : Nat) (a0_3 : Nat) (a0_4 : Int) (a1_0 : Int) (a1_1 : Int) (a1_2 : Nat) (a1_3 : Nat) (a1_4 : Int) : Option (Bool) := if a0_1 < a1_1 then (some true) else (if a0_1 = a1_1 then (some (decide (a0_0 < a1_0))) else (some false))
set_option maxHeartbeats 8000000 in
set_option maxRecDepth 100000 in
theorem message_ahead.calls (a0_0 : Int) (a0_1 : Int) (a0_2 : Nat) (a0_3 : Nat) (a0_4 : Int) (a1_0 : Int) (a1_1 : Int) (a1_2 : Nat) (a1_3 : Nat) (a1_4 : Int) (r : Bool) (w : World) (h : message_ahead.f a0_0 a0_1 a0_2 a0_3 a0_4 a1_0 a1_1 a1_2 a1_3 a1_4 = some r) :
  Calls Try.prog 142 #[.agg #[.int .i64 a0_0, .int .i64 a0_1, .float .f64 a0_2, .float .f64 a0_3, .int .i64 a0_4], .agg #[.int .i64 a1_0, .int .i64 a1_1, .float .f64 a1_2, .float .f64 a1_3, .int .i64 a1_4]] w fun e w' => e = .returned (.bool r) ∧ Below w.heap.size w w' := by
 have hu56 := Try.underlying56
 have HB := Aside0.mk (Below.refl w.heap.size w)
 have H : (if a0_1 < a1_1 then (some true) else (if a0_1 = a1_1 then (some (decide (a0_0 < a1_0))) else (some false))) = some r := h
 clear h
 by_cases c3 : a0_1 < a1_1
 ·rw [if_pos c3] at H
  have c3b0 := decide_eq_true c3
  clear c3
  obtain rfl := oj_ H
  go_enter Try.func142, Try.ntmps142
  go_wp2_with (first | ((with_reducible refine gate_dst (N := 2) rfl ?_); refine bx_ (N := 2) #[.int .i64 a0_0, .int .i64 a0_1, .float .f64 a0_2, .float .f64 a0_3, .int .i64 a0_4] 56 ⟨fb⟩ ?_; clear HB; intro gb124 w4 HB BK124 GE124; have GW124 := GE124) | ((with_reducible refine gate_dst (N := 3) rfl ?_); refine bz_ (N := 3) #[.int .i64 a1_0, .int .i64 a1_1, .float .f64 a1_2, .float .f64 a1_3, .int .i64 a1_4] 56 ?_; intro gb125 hg w5 hbox hb; have n0_ := Aside0.mk (blk_below (g := gb124) (o := .cells #[.int .i64 a0_0, .int .i64 a0_1, .float .f64 a0_2, .float .f64 a0_3, .int .i64 a0_4] 56 (0, 0)) (kp BK124.out) hb); have n1_ := Aside0.mk (below_step (fb1 GE124) hb); have n2_ := Aside0.mk (hbox); have n3_ := Aside0.mk ((by rw [hg]; exact (below_size (fb1 GE124)) : w.heap.size ≤ gb125)); have n4_ := Aside0.mk ((by rw [hg]; exact (below_size (fb1 GE124)) : w.heap.size ≤ gb125)); have n5_ := Aside0.mk ((by rw [hg]; exact Nat.ne_of_lt (blk_lt (g := gb124) (o := .cells #[.int .i64 a0_0, .int .i64 a0_1, .float .f64 a0_2, .float .f64 a0_3, .int .i64 a0_4] 56 (0, 0)) (kp BK124.out)) : gb124 ≠ gb125)); have n6_ := Aside0.mk ((by rw [hg]; exact Nat.ne_of_gt (blk_lt (g := gb124) (o := .cells #[.int .i64 a0_0, .int .i64 a0_1, .float .f64 a0_2, .float .f64 a0_3, .int .i64 a0_4] 56 (0, 0)) (kp BK124.out)) : gb125 ≠ gb124)); clear BK124; clear HB; have BK124 := n0_; have HB := n1_; have BK125 := n2_; have GW125 := n3_; have GE125 := n4_; have NB124_125 := n5_; have NB125_124 := n6_; clear n0_ n1_ n2_ n3_ n4_ n5_ n6_; clear hb hbox hg; have hnb6 := NB124_125.out; have hnc6 := NB125_124.out; obtain ⟨hcz7_0, hcz7_1, hcz7_2, hcz7_3, hcz7_4, hfz7_0, hfz7_1, hfz7_2, hfz7_3, hfz7_4⟩ := cz5 BK124.out; obtain ⟨hcz8_0, hcz8_1, hcz8_2, hcz8_3, hcz8_4, hfz8_0, hfz8_1, hfz8_2, hfz8_3, hfz8_4⟩ := cz5 BK125.out))
  go_ret
  exact ⟨fe, fb2 GE124 GE125⟩
 ·rw [if_neg c3] at H
  have c3b0 := decide_eq_false c3
  clear c3
  by_cases c9 : a0_1 = a1_1
  ·rw [if_pos c9] at H
   have c9b0 := be_ c9
   have c9b1 := bg_ c9
   clear c9
   obtain rfl := oj_ H
   go_enter Try.func142, Try.ntmps142
   go_wp2_with (first | ((with_reducible refine gate_dst (N := 2) rfl ?_); refine bx_ (N := 2) #[.int .i64 a0_0, .int .i64 a0_1, .float .f64 a0_2, .float .f64 a0_3, .int .i64 a0_4] 56 ⟨fb⟩ ?_; clear HB; intro gb124 w10 HB BK124 GE124; have GW124 := GE124) | ((with_reducible refine gate_dst (N := 3) rfl ?_); refine bz_ (N := 3) #[.int .i64 a1_0, .int .i64 a1_1, .float .f64 a1_2, .float .f64 a1_3, .int .i64 a1_4] 56 ?_; intro gb125 hg w11 hbox hb; have n0_ := Aside0.mk (blk_below (g := gb124) (o := .cells #[.int .i64 a0_0, .int .i64 a0_1, .float .f64 a0_2, .float .f64 a0_3, .int .i64 a0_4] 56 (0, 0)) (kp BK124.out) hb); have n1_ := Aside0.mk (below_step (fb1 GE124) hb); have n2_ := Aside0.mk (hbox); have n3_ := Aside0.mk ((by rw [hg]; exact (below_size (fb1 GE124)) : w.heap.size ≤ gb125)); have n4_ := Aside0.mk ((by rw [hg]; exact (below_size (fb1 GE124)) : w.heap.size ≤ gb125)); have n5_ := Aside0.mk ((by rw [hg]; exact Nat.ne_of_lt (blk_lt (g := gb124) (o := .cells #[.int .i64 a0_0, .int .i64 a0_1, .float .f64 a0_2, .float .f64 a0_3, .int .i64 a0_4] 56 (0, 0)) (kp BK124.out)) : gb124 ≠ gb125)); have n6_ := Aside0.mk ((by rw [hg]; exact Nat.ne_of_gt (blk_lt (g := gb124) (o := .cells #[.int .i64 a0_0, .int .i64 a0_1, .float .f64 a0_2, .float .f64 a0_3, .int .i64 a0_4] 56 (0, 0)) (kp BK124.out)) : gb125 ≠ gb124)); clear BK124; clear HB; have BK124 := n0_; have HB := n1_; have BK125 := n2_; have GW125 := n3_; have GE125 := n4_; have NB124_125 := n5_; have NB125_124 := n6_; clear n0_ n1_ n2_ n3_ n4_ n5_ n6_; clear hb hbox hg; have hnb12 := NB124_125.out; have hnc12 := NB125_124.out; obtain ⟨hcz13_0, hcz13_1, hcz13_2, hcz13_3, hcz13_4, hfz13_0, hfz13_1, hfz13_2, hfz13_3, hfz13_4⟩ := cz5 BK124.out; obtain ⟨hcz14_0, hcz14_1, hcz14_2, hcz14_3, hcz14_4, hfz14_0, hfz14_1, hfz14_2, hfz14_3, hfz14_4⟩ := cz5 BK125.out))
   go_ret
   exact ⟨fe, fb2 GE124 GE125⟩
  ·rw [if_neg c9] at H
   have c9b0 := bh_ c9
   have c9b1 := bi_ c9
   obtain rfl := oj_ H
   go_enter Try.func142, Try.ntmps142
   go_wp2_with (first | ((with_reducible refine gate_dst (N := 2) rfl ?_); refine bx_ (N := 2) #[.int .i64 a0_0, .int .i64 a0_1, .float .f64 a0_2, .float .f64 a0_3, .int .i64 a0_4] 56 ⟨fb⟩ ?_; clear HB; intro gb124 w15 HB BK124 GE124; have GW124 := GE124) | ((with_reducible refine gate_dst (N := 3) rfl ?_); refine bz_ (N := 3) #[.int .i64 a1_0, .int .i64 a1_1, .float .f64 a1_2, .float .f64 a1_3, .int .i64 a1_4] 56 ?_; intro gb125 hg w16 hbox hb; have n0_ := Aside0.mk (blk_below (g := gb124) (o := .cells #[.int .i64 a0_0, .int .i64 a0_1, .float .f64 a0_2, .float .f64 a0_3, .int .i64 a0_4] 56 (0, 0)) (kp BK124.out) hb); have n1_ := Aside0.mk (below_step (fb1 GE124) hb); have n2_ := Aside0.mk (hbox); have n3_ := Aside0.mk ((by rw [hg]; exact (below_size (fb1 GE124)) : w.heap.size ≤ gb125)); have n4_ := Aside0.mk ((by rw [hg]; exact (below_size (fb1 GE124)) : w.heap.size ≤ gb125)); have n5_ := Aside0.mk ((by rw [hg]; exact Nat.ne_of_lt (blk_lt (g := gb124) (o := .cells #[.int .i64 a0_0, .int .i64 a0_1, .float .f64 a0_2, .float .f64 a0_3, .int .i64 a0_4] 56 (0, 0)) (kp BK124.out)) : gb124 ≠ gb125)); have n6_ := Aside0.mk ((by rw [hg]; exact Nat.ne_of_gt (blk_lt (g := gb124) (o := .cells #[.int .i64 a0_0, .int .i64 a0_1, .float .f64 a0_2, .float .f64 a0_3, .int .i64 a0_4] 56 (0, 0)) (kp BK124.out)) : gb125 ≠ gb124)); clear BK124; clear HB; have BK124 := n0_; have HB := n1_; have BK125 := n2_; have GW125 := n3_; have GE125 := n4_; have NB124_125 := n5_; have NB125_124 := n6_; clear n0_ n1_ n2_ n3_ n4_ n5_ n6_; clear hb hbox hg; have hnb17 := NB124_125.out; have hnc17 := NB125_124.out; obtain ⟨hcz18_0, hcz18_1, hcz18_2, hcz18_3, hcz18_4, hfz18_0, hfz18_1, hfz18_2, hfz18_3, hfz18_4⟩ := cz5 BK124.out; obtain ⟨hcz19_0, hcz19_1, hcz19_2, hcz19_3, hcz19_4, hfz19_0, hfz19_1, hfz19_2, hfz19_3, hfz19_4⟩ := cz5 BK125.out))
   go_ret
   exact ⟨fe, fb2 GE124 GE125⟩

end Go.Proofs.Ytjkhckbfkinheaa.GAa
