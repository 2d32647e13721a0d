-- written by a program of this session (wip/pp): see NOTES.md
import Derived.Test.YtjkhckbfkinheaaGAax0
import Derived.Test.YtjkhckbfkinheaaGAax17
import Derived.Test.YtjkhckbfkinheaaGAax43
namespace Go.Proofs.Ytjkhckbfkinheaa.GAa
open Go.RowKit Go.Proofs.YtjkhckbfkinheaaW.PrintWords Go.Proofs.YtjkhckbfkinheaaW.PrintLast Go.Proofs.YtjkhckbfkinheaaW.PrintMore
attribute [local go_sem] max2_int min2_int max_two min_two max_three min_three max_four min_four   -- for this text's walks alone
attribute [local go_sem high] binOp_flss binOp_fgtr binOp_fleq binOp_fgeq binOp_feql binOp_fneq run_fadd run_fsub run_fmul run_fquo unary_fneg run_ftoint run_fofint run_feqIn ext_bits ext_frombits ext_trunc
set_option linter.unusedVariables false
set_option linter.unusedSimpArgs false

/-! ### beaconref16_MayBalls: function 24 -/
mutual
def beaconref16_MayBalls.l0 : Nat → Int → List (S58) → Int → Option (Bool)
 | 0, _, _, _ => none
 | k + 1, x0, x1, x5 => if x5 < (x1.length : Int) then (if 0 ≤ x5 then (if ((rd_T58 x1 x5).f1) = 2 then (beaconref16_MayBalls.j1 k x0 x1 x5 false ((rd_T58 x1 x5).f0) ((rd_T58 x1 x5).f1) ((rd_T58 x1 x5).f2) ((rd_T58 x1 x5).f3) ((rd_T58 x1 x5).f4) ((rd_T58 x1 x5).f5)) else (beaconref16_MayBalls.j1 k x0 x1 x5 (((rd_T58 x1 x5).f1) != 3) ((rd_T58 x1 x5).f0) ((rd_T58 x1 x5).f1) ((rd_T58 x1 x5).f2) ((rd_T58 x1 x5).f3) ((rd_T58 x1 x5).f4) ((rd_T58 x1 x5).f5))) else (none)) else (some true)
def beaconref16_MayBalls.j1 : Nat → Int → List (S58) → Int → Bool → Int → Int → Nat → Int → Nat → Int → Option (Bool)
 | 0, _, _, _, _, _, _, _, _, _, _ => none
 | k + 1, x0, x1, x5, x24, x548000, x548001, x548002, x548003, x548004, x548005 => if x24 = true then (some false) else (if x5 > 0 then (if 0 ≤ (wrap64 (x5 - 1)) then (if (wrap64 (x5 - 1)) < (x1.length : Int) then ((beaconref16_ahead.f ((rd_T58 x1 (wrap64 (x5 - 1))).f0) ((rd_T58 x1 (wrap64 (x5 - 1))).f1) ((rd_T58 x1 (wrap64 (x5 - 1))).f2) ((rd_T58 x1 (wrap64 (x5 - 1))).f3) ((rd_T58 x1 (wrap64 (x5 - 1))).f4) ((rd_T58 x1 (wrap64 (x5 - 1))).f5) x548000 x548001 x548002 x548003 x548004 x548005).bind fun t549 => (if t549 = true then ((beaconref16_number.f k x548000).bind fun t550 => (if t550 = true then (if x548000 = x0 then (beaconref16_MayBalls.j2 k x0 x1 x5 true x548000 x548001 x548002 x548003 x548004 x548005) else ((beaconref16_number.f k x548003).bind fun t551 => (beaconref16_MayBalls.j2 k x0 x1 x5 (!t551) x548000 x548001 x548002 x548003 x548004 x548005))) else (beaconref16_MayBalls.j2 k x0 x1 x5 true x548000 x548001 x548002 x548003 x548004 x548005))) else (beaconref16_MayBalls.j2 k x0 x1 x5 true x548000 x548001 x548002 x548003 x548004 x548005))) else (none)) else (none)) else ((beaconref16_number.f k x548000).bind fun t552 => (if t552 = true then (if x548000 = x0 then (beaconref16_MayBalls.j2 k x0 x1 x5 true x548000 x548001 x548002 x548003 x548004 x548005) else ((beaconref16_number.f k x548003).bind fun t553 => (beaconref16_MayBalls.j2 k x0 x1 x5 (!t553) x548000 x548001 x548002 x548003 x548004 x548005))) else (beaconref16_MayBalls.j2 k x0 x1 x5 true x548000 x548001 x548002 x548003 x548004 x548005))))
def beaconref16_MayBalls.j2 : Nat → Int → List (S58) → Int → Bool → Int → Int → Nat → Int → Nat → Int → Option (Bool)
 | 0, _, _, _, _, _, _, _, _, _, _ => none
 | k + 1, x0, x1, x5, x54, x548000, x548001, x548002, x548003, x548004, x548005 => if x54 = true then (some false) else ((beaconref06_Far.f k x548002).bind fun t554 => (if t554 = true then ((beaconref16_far.f x548002).bind fun t555 => (if t555 = true then (beaconref16_MayBalls.j3 k x0 x1 x5 true x548000 x548001 x548002 x548003 x548004 x548005) else (if (fEq x548002 0) = true then (beaconref16_MayBalls.j3 k x0 x1 x5 true x548000 x548001 x548002 x548003 x548004 x548005) else ((beaconref06_Far.f k x548004).bind fun t556 => (if t556 = true then (beaconref16_MayBalls.j3 k x0 x1 x5 (fLt x548004 x548002) x548000 x548001 x548002 x548003 x548004 x548005) else (beaconref16_MayBalls.j3 k x0 x1 x5 true x548000 x548001 x548002 x548003 x548004 x548005)))))) else (beaconref16_MayBalls.j3 k x0 x1 x5 true x548000 x548001 x548002 x548003 x548004 x548005)))
def beaconref16_MayBalls.j3 : Nat → Int → List (S58) → Int → Bool → Int → Int → Nat → Int → Nat → Int → Option (Bool)
 | 0, _, _, _, _, _, _, _, _, _, _ => none
 | k + 1, x0, x1, x5, x81, x548000, x548001, x548002, x548003, x548004, x548005 => if x81 = true then (some false) else ((beaconref16_number.f k x548005).bind fun t557 => (if t557 = true then (beaconref16_MayBalls.j4 k x0 x1 x5 false x548000 x548001 x548002 x548003 x548004 x548005) else (if x548005 = 0 then ((beaconref16_far.f x548004).bind fun t558 => (beaconref16_MayBalls.j4 k x0 x1 x5 (!t558) x548000 x548001 x548002 x548003 x548004 x548005)) else (beaconref16_MayBalls.j4 k x0 x1 x5 (!false) x548000 x548001 x548002 x548003 x548004 x548005))))
def beaconref16_MayBalls.j4 : Nat → Int → List (S58) → Int → Bool → Int → Int → Nat → Int → Nat → Int → Option (Bool)
 | 0, _, _, _, _, _, _, _, _, _, _ => none
 | k + 1, x0, x1, x5, x96, x548000, x548001, x548002, x548003, x548004, x548005 => if x96 = true then (some false) else (if x548005 = 0 then (beaconref16_MayBalls.j5 k x0 x1 x5 false) else ((beaconref16_far.f x548004).bind fun t559 => (beaconref16_MayBalls.j5 k x0 x1 x5 t559)))
def beaconref16_MayBalls.j5 : Nat → Int → List (S58) → Int → Bool → Option (Bool)
 | 0, _, _, _, _ => none
 | k + 1, x0, x1, x5, x104 => if x104 = true then (some false) else (beaconref16_MayBalls.l0 k x0 x1 (wrap64 (x5 + 1)))
end
def beaconref16_MayBalls.f (k : Nat) (a0 : Int) (l1 : List (S58)) : Option (Bool) := beaconref16_MayBalls.l0 k a0 l1 0
def beaconref16_MayBalls.T7 : Bool × List (List Nat × List Nat) := (true, [([], []), ([0], [0]), ([1], [1]), ([2], [2]), ([2], [2]), ([4, 2], [2, 4]), ([3, 5, 2], [2, 3, 5]), ([6, 2], [2, 6]), ([2], [2]), ([7, 8, 2, 2], [2, 7, 8]), ([9, 2], [2, 9]), ([2, 10], [2, 10]), ([11, 9], [11]), ([12], [12]), ([13, 12], [12, 13]), ([14, 12, 12], [12, 14]), ([15, 12], [12, 15]), ([12, 16], [12, 16]), ([17, 15], [17]), ([18], [18]), ([19, 18], [18, 19]), ([18], [18]), ([20, 21, 18], [18, 20, 21]), ([18, 22], [18, 22]), ([23, 18], [23]), ([24], [24]), ([25, 24], [24, 25]), ([26, 24, 24], [24, 26]), ([27, 24], [24, 27]), ([24, 28], [24, 28])])
def beaconref16_MayBalls.B7 : List Nat := [0, 1, 3, 7, 7, 23, 63, 127, 7, 511, 1023, 2047, 4095, 8191, 16383, 32767, 65535, 131071, 262143, 524287, 1048575, 524287, 4194303, 8388607, 16777215, 33554431, 67108863, 134217727, 268435455, 536870911]
theorem beaconref16_MayBalls.tab7 : rtab .any (opsOf Try.f24 7) = beaconref16_MayBalls.T7 := by kernel_rfl
theorem beaconref16_MayBalls.bits7 : waitsOk beaconref16_MayBalls.T7.2 beaconref16_MayBalls.B7 = true := by kernel_rfl
set_option maxHeartbeats 8000000 in
set_option maxRecDepth 100000 in
theorem beaconref16_MayBalls.calls (k : Nat) (a0 : Int) (A1 : Option Addr) (c1 : Nat) (l1 : List (S58)) (r : Bool) (w : World) (hr1 : Kd.C k58 w A1 l1.length l1) (hc1 : l1.length ≤ c1) (h : beaconref16_MayBalls.f k a0 l1 = some r) :
  Calls Try.prog 24 #[.int .i64 a0, .slice A1 l1.length c1] w fun e w' => e = .returned (.bool r) ∧ Below w.heap.size w w' := by
 have hu58 := Try.underlying58
 have HR1 := Aside0.mk hr1
 have HC1 := Aside0.mk hc1
 clear hr1 hc1
 have HB := Aside0.mk (Below.refl w.heap.size w)
 have H : (beaconref16_MayBalls.l0 k a0 l1 0) = some r := h
 clear h
 have H' := Aside0.mk H
 clear H
 go_enter Try.func24, Try.ntmps24
 go_wp2
 go_loopg [5] k (fun kq v5 w' => ∃ (x5_1 : Int), v5 = .int .i64 x5_1 ∧ Aside0 (beaconref16_MayBalls.l0 kq a0 l1 x5_1 = some r) ∧ Aside0 (kq ≤ k) ∧ Aside0 (Below w.heap.size w w'))
 case atStart => exact ⟨(0), fz, H', ⟨Nat.le_refl _⟩, ⟨fb⟩⟩
 case round =>
  clear H'
  (try clear c1)
  obtain ⟨x5_1, rfl, HA, HK1, HB⟩ := hrel
  cases gk with
  | zero => exact absurd HA.out (by simp [beaconref16_MayBalls.l0])
  | succ k1 =>
   have H := HA.out
   clear HA
   simp only [beaconref16_MayBalls.l0] at H
   by_cases c3 : x5_1 < (l1.length : Int)
   ·rw [if_pos c3] at H
    have c3b0 := decide_eq_true c3
    clear c3
    by_cases c4 : 0 ≤ x5_1
    ·rw [if_pos c4] at H
     have c4b0 := decide_eq_true c4
     clear c4
     have HC5 := Aside0.mk H
     clear H
     have p546 : 0 ≤ (x5_1 : Int) := of_decide_eq_true (by first | (with_reducible assumption) | assumption)
     have q546 : x5_1 < (l1.length : Int) := of_decide_eq_true (by first | (with_reducible assumption) | assumption)
     obtain ⟨ad546, e546, hx546_0, hx546_1, hx546_2, hx546_3, hx546_4, hx546_5⟩ := at_T58 HR1.out x5_1 p546 q546
     cases e546
     replace hx546_0 := pw_cell_below HB.out hx546_0
     replace hx546_1 := pw_cell_below HB.out hx546_1
     replace hx546_2 := pw_cell_below HB.out hx546_2
     replace hx546_3 := pw_cell_below HB.out hx546_3
     replace hx546_4 := pw_cell_below HB.out hx546_4
     replace hx546_5 := pw_cell_below HB.out hx546_5
     replace p546 := eq_true p546
     replace q546 := eq_true q546
     go_upto_region 5 with (first | ((with_reducible refine gate_dst (N := 6) rfl ?_); refine bx_ (N := 6) #[.int .i64 0, .int .i64 0, .float .f64 0, .int .i64 0, .float .f64 0, .int .i64 0] 58 ⟨fb⟩ ?_; clear HB; intro gb547 w6 HB BK547 GE547; have GW547 := GE547; obtain ⟨hcz7_0, hcz7_1, hcz7_2, hcz7_3, hcz7_4, hcz7_5, hfz7_0, hfz7_1, hfz7_2, hfz7_3, hfz7_4, hfz7_5⟩ := cz6 BK547.out))
     (try simp only [Act.put, qa, qb, qc])
     go_cut [24] (fun v24 wc => ∃ (kq : Nat) (x24_4 : Bool), v24 = .bool x24_4 ∧ Aside0 (beaconref16_MayBalls.j1 kq a0 l1 x5_1 x24_4 ((rd_T58 l1 x5_1).f0) ((rd_T58 l1 x5_1).f1) ((rd_T58 l1 x5_1).f2) ((rd_T58 l1 x5_1).f3) ((rd_T58 l1 x5_1).f4) ((rd_T58 l1 x5_1).f5) = some r) ∧ Aside0 (kq ≤ k1) ∧ Aside0 (wc.heap[gb547]? = some (.cells #[.int .i64 ((rd_T58 l1 x5_1).f0), .int .i64 ((rd_T58 l1 x5_1).f1), .float .f64 ((rd_T58 l1 x5_1).f2), .int .i64 ((rd_T58 l1 x5_1).f3), .float .f64 ((rd_T58 l1 x5_1).f4), .int .i64 ((rd_T58 l1 x5_1).f5)] 58 (0, 0))) ∧ Aside0 (Below w.heap.size w wc))
     case first =>
      have H := HC5.out
      clear HC5
      by_cases c8 : ((rd_T58 l1 x5_1).f1) = 2
      ·rw [if_pos c8] at H
       have c8b0 := be_ c8
       have c8b1 := bg_ c8
       clear c8
       (first | rw [c8b0] | (simp only [i64_w, i32_w]; rw [c8b0]) | skip)
       have H' := Aside0.mk H
       clear H
       obtain ⟨hcz9_0, hcz9_1, hcz9_2, hcz9_3, hcz9_4, hcz9_5, hfz9_0, hfz9_1, hfz9_2, hfz9_3, hfz9_4, hfz9_5⟩ := cz6 BK547.out
       go_wp2
       go_meet
       case rel => exact ⟨_, (false), fz, H', ⟨by have := HK1.out; exact fl⟩, ⟨kp BK547.out⟩, ⟨fb1 GE547⟩⟩
      ·rw [if_neg c8] at H
       have c8b0 := bh_ c8
       have c8b1 := bi_ c8
       (first | rw [c8b0] | (simp only [i64_w, i32_w]; rw [c8b0]) | skip)
       have H' := Aside0.mk H
       clear H
       obtain ⟨hcz10_0, hcz10_1, hcz10_2, hcz10_3, hcz10_4, hcz10_5, hfz10_0, hfz10_1, hfz10_2, hfz10_3, hfz10_4, hfz10_5⟩ := cz6 BK547.out
       go_wp2
       go_meet
       case rel => exact ⟨_, ((((rd_T58 l1 x5_1).f1) != 3)), fz, H', ⟨by have := HK1.out; exact fl⟩, ⟨kp BK547.out⟩, ⟨fb1 GE547⟩⟩
     case rest =>
      clear HC5
      (try clear c1); (try clear c3); (try clear c3b0); (try clear c4); (try clear c4b0); (try clear hcz7_0); (try clear hcz7_1); (try clear hcz7_2); (try clear hcz7_3); (try clear hcz7_4); (try clear hcz7_5); (try clear hfz7_0); (try clear hfz7_1); (try clear hfz7_2); (try clear hfz7_3); (try clear hfz7_4); (try clear hfz7_5); (try clear hx546_0); (try clear hx546_1); (try clear hx546_2); (try clear hx546_3); (try clear hx546_4); (try clear hx546_5); (try clear p546); (try clear q546)
      obtain ⟨kq, x24_4, rfl, HA, HJ4, BK547, HB⟩ := hcut
      cases kq with
      | zero => exact absurd HA.out (by simp [beaconref16_MayBalls.j1])
      | succ kj4 =>
       have H := HA.out
       clear HA
       simp only [beaconref16_MayBalls.j1] at H
       by_cases c11 : x24_4 = true
       ·subst c11
        rw [if_pos rfl] at H
        obtain rfl := oj_ H
        go_wp2
        go_ret
        exact ⟨fe, fb1 GE547⟩
       ·obtain rfl := bf_ c11
        rw [if_neg nf_] at H
        have HC12 := Aside0.mk H
        clear H
        go_upto_region 7 with (fail)
        go_cut [54] (fun v54 wc => ∃ (kq : Nat) (x54_11 : Bool), v54 = .bool x54_11 ∧ Aside0 (beaconref16_MayBalls.j2 kq a0 l1 x5_1 x54_11 ((rd_T58 l1 x5_1).f0) ((rd_T58 l1 x5_1).f1) ((rd_T58 l1 x5_1).f2) ((rd_T58 l1 x5_1).f3) ((rd_T58 l1 x5_1).f4) ((rd_T58 l1 x5_1).f5) = some r) ∧ Aside0 (kq ≤ kj4) ∧ Aside0 (wc.heap[gb547]? = some (.cells #[.int .i64 ((rd_T58 l1 x5_1).f0), .int .i64 ((rd_T58 l1 x5_1).f1), .float .f64 ((rd_T58 l1 x5_1).f2), .int .i64 ((rd_T58 l1 x5_1).f3), .float .f64 ((rd_T58 l1 x5_1).f4), .int .i64 ((rd_T58 l1 x5_1).f5)] 58 (0, 0))) ∧ Aside0 (Below w.heap.size w wc))
        case first =>
         have H := HC12.out
         clear HC12
         by_cases c13 : x5_1 > 0
         ·rw [if_pos c13] at H
          have c13b0 := decide_eq_true c13
          clear c13
          (first | rw [c13b0] | (simp only [i64_w, i32_w]; rw [c13b0]) | skip)
          obtain ⟨ji14, hji14⟩ : ∃ j_ : Int, (wrap64 (x5_1 - 1)) = j_ := ⟨_, rfl⟩
          replace H : (if 0 ≤ (ji14) then (if (ji14) < (l1.length : Int) then ((beaconref16_ahead.f ((rd_T58 l1 (ji14)).f0) ((rd_T58 l1 (ji14)).f1) ((rd_T58 l1 (ji14)).f2) ((rd_T58 l1 (ji14)).f3) ((rd_T58 l1 (ji14)).f4) ((rd_T58 l1 (ji14)).f5) ((rd_T58 l1 x5_1).f0) ((rd_T58 l1 x5_1).f1) ((rd_T58 l1 x5_1).f2) ((rd_T58 l1 x5_1).f3) ((rd_T58 l1 x5_1).f4) ((rd_T58 l1 x5_1).f5)).bind fun t549 => (if t549 = true then ((beaconref16_number.f kj4 ((rd_T58 l1 x5_1).f0)).bind fun t550 => (if t550 = true then (if ((rd_T58 l1 x5_1).f0) = a0 then (beaconref16_MayBalls.j2 kj4 a0 l1 x5_1 true ((rd_T58 l1 x5_1).f0) ((rd_T58 l1 x5_1).f1) ((rd_T58 l1 x5_1).f2) ((rd_T58 l1 x5_1).f3) ((rd_T58 l1 x5_1).f4) ((rd_T58 l1 x5_1).f5)) else ((beaconref16_number.f kj4 ((rd_T58 l1 x5_1).f3)).bind fun t551 => (beaconref16_MayBalls.j2 kj4 a0 l1 x5_1 (!t551) ((rd_T58 l1 x5_1).f0) ((rd_T58 l1 x5_1).f1) ((rd_T58 l1 x5_1).f2) ((rd_T58 l1 x5_1).f3) ((rd_T58 l1 x5_1).f4) ((rd_T58 l1 x5_1).f5)))) else (beaconref16_MayBalls.j2 kj4 a0 l1 x5_1 true ((rd_T58 l1 x5_1).f0) ((rd_T58 l1 x5_1).f1) ((rd_T58 l1 x5_1).f2) ((rd_T58 l1 x5_1).f3) ((rd_T58 l1 x5_1).f4) ((rd_T58 l1 x5_1).f5)))) else (beaconref16_MayBalls.j2 kj4 a0 l1 x5_1 true ((rd_T58 l1 x5_1).f0) ((rd_T58 l1 x5_1).f1) ((rd_T58 l1 x5_1).f2) ((rd_T58 l1 x5_1).f3) ((rd_T58 l1 x5_1).f4) ((rd_T58 l1 x5_1).f5)))) else (none)) else (none)) = some r := by first | (rw [hji14] at H; exact H) | (simp only [hji14] at H ⊢; exact H)
          have hji14w : (IntKind.i64.wrap (x5_1 - 1)) = ji14 := (i64_w _).trans hji14
          by_cases c15 : 0 ≤ (ji14)
          ·rw [if_pos c15] at H
           have c15b0 := decide_eq_true c15
           clear c15
           by_cases c16 : (ji14) < (l1.length : Int)
           ·rw [if_pos c16] at H
            have c16b0 := decide_eq_true c16
            clear c16
            replace H := bs_ H; obtain ⟨t549, A17, H⟩ := H
            by_cases c18 : t549 = true
            ·subst c18
             rw [if_pos rfl] at H
             replace H := bs_ H; obtain ⟨t550, A19, H⟩ := H
             by_cases c20 : t550 = true
             ·subst c20
              rw [if_pos rfl] at H
              by_cases c21 : ((rd_T58 l1 x5_1).f0) = a0
              ·rw [if_pos c21] at H
               have c21b0 := be_ c21
               have c21b1 := bg_ c21
               clear c21
               have H' := Aside0.mk H
               clear H
               try go_wp2
               have n0_ := Aside0.mk (blk_drew BK547.out)
               have n1_ := Aside0.mk (below_drew1 HB.out)
               clear BK547
               clear HB
               have BK547 := n0_
               have HB := n1_
               clear n0_ n1_
               have p548 : 0 ≤ ((ji14) : Int) := of_decide_eq_true (by first | (with_reducible assumption) | assumption)
               have q548 : (ji14) < (l1.length : Int) := of_decide_eq_true (by first | (with_reducible assumption) | assumption)
               obtain ⟨ad548, e548, hx548_0, hx548_1, hx548_2, hx548_3, hx548_4, hx548_5⟩ := at_T58 HR1.out (ji14) p548 q548
               have hw548_5 := hx548_5
               have hw548_4 := hx548_4
               have hw548_3 := hx548_3
               have hw548_2 := hx548_2
               have hw548_1 := hx548_1
               have hw548_0 := hx548_0
               obtain rfl : ad546 = ad548 := (by injection e548)
               replace hx548_0 := pw_cell_below HB.out hx548_0
               replace hx548_1 := pw_cell_below HB.out hx548_1
               replace hx548_2 := pw_cell_below HB.out hx548_2
               replace hx548_3 := pw_cell_below HB.out hx548_3
               replace hx548_4 := pw_cell_below HB.out hx548_4
               replace hx548_5 := pw_cell_below HB.out hx548_5
               replace p548 := eq_true p548
               replace q548 := eq_true q548
               refine start_ (n := 30) (S := fun w' => w'.cell? ⟨gb547, 0, none⟩ = some (.int .i64 ((rd_T58 l1 x5_1).f0)) ∧ w'.cell? ⟨gb547, 1, none⟩ = some (.int .i64 ((rd_T58 l1 x5_1).f1)) ∧ w'.cell? ⟨gb547, 2, none⟩ = some (.float .f64 ((rd_T58 l1 x5_1).f2)) ∧ w'.cell? ⟨gb547, 3, none⟩ = some (.int .i64 ((rd_T58 l1 x5_1).f3)) ∧ w'.cell? ⟨gb547, 4, none⟩ = some (.float .f64 ((rd_T58 l1 x5_1).f4)) ∧ w'.cell? ⟨gb547, 5, none⟩ = some (.int .i64 ((rd_T58 l1 x5_1).f5)) ∧ w'.cell? (ad546.add (((ji14)).toNat * 6)) = some (.int .i64 ((rd_T58 l1 (ji14)).f0)) ∧ w'.cell? ⟨(ad546.add (((ji14)).toNat * 6)).block, (ad546.add (((ji14)).toNat * 6)).off + 1, none⟩ = some (.int .i64 ((rd_T58 l1 (ji14)).f1)) ∧ w'.cell? ⟨(ad546.add (((ji14)).toNat * 6)).block, (ad546.add (((ji14)).toNat * 6)).off + 2, none⟩ = some (.float .f64 ((rd_T58 l1 (ji14)).f2)) ∧ w'.cell? ⟨(ad546.add (((ji14)).toNat * 6)).block, (ad546.add (((ji14)).toNat * 6)).off + 3, none⟩ = some (.int .i64 ((rd_T58 l1 (ji14)).f3)) ∧ w'.cell? ⟨(ad546.add (((ji14)).toNat * 6)).block, (ad546.add (((ji14)).toNat * 6)).off + 4, none⟩ = some (.float .f64 ((rd_T58 l1 (ji14)).f4)) ∧ w'.cell? ⟨(ad546.add (((ji14)).toNat * 6)).block, (ad546.add (((ji14)).toNat * 6)).off + 5, none⟩ = some (.int .i64 ((rd_T58 l1 (ji14)).f5))) (ds := []) (bz 30 0) (by kernel_rfl) rfl rfl ⟨(blk_cell BK547.out 0).trans rfl, (blk_cell BK547.out 1).trans rfl, (blk_cell BK547.out 2).trans rfl, (blk_cell BK547.out 3).trans rfl, (blk_cell BK547.out 4).trans rfl, (blk_cell BK547.out 5).trans rfl, ((HB.out.cell (World.block_lt_of_cell? w _ hw548_0)).trans hw548_0), ((HB.out.cell (World.block_lt_of_cell? w _ hw548_1)).trans hw548_1), ((HB.out.cell (World.block_lt_of_cell? w _ hw548_2)).trans hw548_2), ((HB.out.cell (World.block_lt_of_cell? w _ hw548_3)).trans hw548_3), ((HB.out.cell (World.block_lt_of_cell? w _ hw548_4)).trans hw548_4), ((HB.out.cell (World.block_lt_of_cell? w _ hw548_5)).trans hw548_5)⟩ (fun hHeld => ?_); refine with_tabW beaconref16_MayBalls.tab7 beaconref16_MayBalls.bits7 (fun HT_ HW_ => ?_)
               generalize wc.drew = w22 at BK547 HB hx548_0 hx548_1 hx548_2 hx548_3 hx548_4 hx548_5 hHeld ⊢
               refine pu2 0 (some 25) (bz 30 1) ?_
               refine pu2 1 (some 26) (bz 30 3) ?_
               refine pu2 2 (some 27) (bz 30 7) ?_
               refine pu2 3 (some 28) (bz 30 15) ?_
               refine pu2 4 (some 29) (bz 30 31) ?_
               refine pu2 5 (some 30) (bz 30 63) ?_
               refine pu2 6 (some 31) (bz 30 127) ?_
               refine tk2 7 (some 32) (bz 30 255) ?_
               refine tk2 8 (some 33) (bz 30 511) ?_
               refine one_ (i := 9) (N := some 34) (bz 30 1023) rfl rfl (one_of HT_.out (by kernel_rfl)) (by decide) (fun K hK => ?_)
               refine goes_ Try.func38 (by kernel_rfl) rfl #[.agg #[.int .i64 ((rd_T58 l1 (ji14)).f0), .int .i64 ((rd_T58 l1 (ji14)).f1), .float .f64 ((rd_T58 l1 (ji14)).f2), .int .i64 ((rd_T58 l1 (ji14)).f3), .float .f64 ((rd_T58 l1 (ji14)).f4), .int .i64 ((rd_T58 l1 (ji14)).f5)], .agg #[.int .i64 ((rd_T58 l1 x5_1).f0), .int .i64 ((rd_T58 l1 x5_1).f1), .float .f64 ((rd_T58 l1 x5_1).f2), .int .i64 ((rd_T58 l1 x5_1).f3), .float .f64 ((rd_T58 l1 x5_1).f4), .int .i64 ((rd_T58 l1 x5_1).f5)]] (by rfl) rfl rfl (by (try simp only [List.map_toArray, List.map_cons, List.map_nil]); first | done | (simp only [hji14]; rfl) | rfl | (simp only [List.length_drop, List.length_take]; rfl)) ?_
               with_reducible refine (beaconref16_ahead.calls ((rd_T58 l1 (ji14)).f0) ((rd_T58 l1 (ji14)).f1) ((rd_T58 l1 (ji14)).f2) ((rd_T58 l1 (ji14)).f3) ((rd_T58 l1 (ji14)).f4) ((rd_T58 l1 (ji14)).f5) ((rd_T58 l1 x5_1).f0) ((rd_T58 l1 x5_1).f1) ((rd_T58 l1 x5_1).f2) ((rd_T58 l1 x5_1).f3) ((rd_T58 l1 x5_1).f4) ((rd_T58 l1 x5_1).f5) true _ A17.out).mono ?_
               rintro e w23 ⟨rfl, hb⟩
               refine ⟨_, rfl, ?_⟩
               have n0_ := Aside0.mk (blk_below (g := gb547) (o := .cells #[.int .i64 ((rd_T58 l1 x5_1).f0), .int .i64 ((rd_T58 l1 x5_1).f1), .float .f64 ((rd_T58 l1 x5_1).f2), .int .i64 ((rd_T58 l1 x5_1).f3), .float .f64 ((rd_T58 l1 x5_1).f4), .int .i64 ((rd_T58 l1 x5_1).f5)] 58 (0, 0)) (kp BK547.out) hb)
               have n1_ := Aside0.mk (below_step (fb1 GE547) hb)
               clear BK547
               clear HB
               have BK547 := n0_
               have HB := n1_
               clear n0_ n1_
               (try clear hb)
               refine hK.out _ _ ⟨(blk_cell BK547.out 0).trans rfl, (blk_cell BK547.out 1).trans rfl, (blk_cell BK547.out 2).trans rfl, (blk_cell BK547.out 3).trans rfl, (blk_cell BK547.out 4).trans rfl, (blk_cell BK547.out 5).trans rfl, ((HB.out.cell (World.block_lt_of_cell? w _ hw548_0)).trans hw548_0), ((HB.out.cell (World.block_lt_of_cell? w _ hw548_1)).trans hw548_1), ((HB.out.cell (World.block_lt_of_cell? w _ hw548_2)).trans hw548_2), ((HB.out.cell (World.block_lt_of_cell? w _ hw548_3)).trans hw548_3), ((HB.out.cell (World.block_lt_of_cell? w _ hw548_4)).trans hw548_4), ((HB.out.cell (World.block_lt_of_cell? w _ hw548_5)).trans hw548_5)⟩ (fun hHeld => ?_)
               clear hK K
               refine norm_ (a' := ?_) ?_ ?_; rotate_left; show Act.put _ (some 34) _ = _; simp only [Act.put, qa, qb, qc, i64_w, i32_w]; rfl
               refine pu2 10 (some 35) (bz 30 2047) ?_
               refine pu2 11 (some 36) (bz 30 4095) ?_
               refine pu2 12 (some 37) (bz 30 8191) ?_
               refine pu2 13 (some 38) (bz 30 16383) ?_
               refine tk2 14 (some 39) (bz 30 32767) ?_
               refine one_ (i := 15) (N := some 40) (bz 30 65535) rfl rfl (one_of HT_.out (by kernel_rfl)) (by decide) (fun K hK => ?_)
               refine goes_ Try.func59 (by kernel_rfl) rfl #[.int .i64 ((rd_T58 l1 x5_1).f0)] (by rfl) rfl rfl (by (try simp only [List.map_toArray, List.map_cons, List.map_nil]); first | done | rfl | (simp only [List.length_drop, List.length_take]; rfl)) ?_
               with_reducible refine (beaconref16_number.calls kj4 ((rd_T58 l1 x5_1).f0) true _ A19.out).mono ?_
               rintro e w' ⟨rfl, ⟨nd, rfl⟩⟩
               refine ⟨_, rfl, ?_⟩
               refine hK.out _ _ ⟨(blk_cell BK547.out 0).trans rfl, (blk_cell BK547.out 1).trans rfl, (blk_cell BK547.out 2).trans rfl, (blk_cell BK547.out 3).trans rfl, (blk_cell BK547.out 4).trans rfl, (blk_cell BK547.out 5).trans rfl, ((HB.out.cell (World.block_lt_of_cell? w _ hw548_0)).trans hw548_0), ((HB.out.cell (World.block_lt_of_cell? w _ hw548_1)).trans hw548_1), ((HB.out.cell (World.block_lt_of_cell? w _ hw548_2)).trans hw548_2), ((HB.out.cell (World.block_lt_of_cell? w _ hw548_3)).trans hw548_3), ((HB.out.cell (World.block_lt_of_cell? w _ hw548_4)).trans hw548_4), ((HB.out.cell (World.block_lt_of_cell? w _ hw548_5)).trans hw548_5)⟩ (fun hHeld => ?_)
               clear hK K
               refine norm_ (a' := ?_) ?_ ?_; rotate_left; show Act.put _ (some 40) _ = _; simp only [Act.put, qa, qb, qc, i64_w, i32_w]; rfl
               refine pu2 16 (some 41) (bz 30 131071) ?_
               refine pu2 17 (some 42) (bz 30 262143) ?_
               refine pu2 18 (some 43) (bz 30 524287) ?_
               refine pu2 19 (some 44) (bz 30 1048575) ?_
               refine pu2 21 (some 46) (bz 30 3145727) ?_
               refine tk2 20 (some 45) (bz 30 4194303) ?_
               refine pu2 22 (some 47) (bz 30 8388607) ?_
               refine pu2 23 (some 48) (bz 30 16777215) ?_
               refine pu2 24 (some 49) (bz 30 33554431) ?_
               refine pz2 25 (some 50) (bz 30 67108863) ?_
               refine pz2 26 (some 51) (bz 30 134217727) ?_
               refine pz2 27 (some 52) (bz 30 268435455) ?_
               refine pz2 28 (some 53) (bz 30 536870911) ?_
               refine pu2 29 (some 54) (bz 30 1073741823) ?_
               refine done_ (done_of HT_.out (by kernel_rfl)) ?_
               try go_wp2
               go_meet
               case rel => exact ⟨_, (true), fz, H', ⟨by have := HK1.out; have := HJ4.out; exact fl⟩, ⟨kp BK547.out⟩, ⟨fb1 GE547⟩⟩
              ·rw [if_neg c21] at H
               have c21b0 := bh_ c21
               have c21b1 := bi_ c21
               replace H := bs_ H; obtain ⟨t551, A24, H⟩ := H
               have H' := Aside0.mk H
               clear H
               try go_wp2
               have n0_ := Aside0.mk (blk_drew BK547.out)
               have n1_ := Aside0.mk (below_drew1 HB.out)
               clear BK547
               clear HB
               have BK547 := n0_
               have HB := n1_
               clear n0_ n1_
               have p548 : 0 ≤ ((ji14) : Int) := of_decide_eq_true (by first | (with_reducible assumption) | assumption)
               have q548 : (ji14) < (l1.length : Int) := of_decide_eq_true (by first | (with_reducible assumption) | assumption)
               obtain ⟨ad548, e548, hx548_0, hx548_1, hx548_2, hx548_3, hx548_4, hx548_5⟩ := at_T58 HR1.out (ji14) p548 q548
               have hw548_5 := hx548_5
               have hw548_4 := hx548_4
               have hw548_3 := hx548_3
               have hw548_2 := hx548_2
               have hw548_1 := hx548_1
               have hw548_0 := hx548_0
               obtain rfl : ad546 = ad548 := (by injection e548)
               replace hx548_0 := pw_cell_below HB.out hx548_0
               replace hx548_1 := pw_cell_below HB.out hx548_1
               replace hx548_2 := pw_cell_below HB.out hx548_2
               replace hx548_3 := pw_cell_below HB.out hx548_3
               replace hx548_4 := pw_cell_below HB.out hx548_4
               replace hx548_5 := pw_cell_below HB.out hx548_5
               replace p548 := eq_true p548
               replace q548 := eq_true q548
               refine start_ (n := 30) (S := fun w' => w'.cell? ⟨gb547, 0, none⟩ = some (.int .i64 ((rd_T58 l1 x5_1).f0)) ∧ w'.cell? ⟨gb547, 1, none⟩ = some (.int .i64 ((rd_T58 l1 x5_1).f1)) ∧ w'.cell? ⟨gb547, 2, none⟩ = some (.float .f64 ((rd_T58 l1 x5_1).f2)) ∧ w'.cell? ⟨gb547, 3, none⟩ = some (.int .i64 ((rd_T58 l1 x5_1).f3)) ∧ w'.cell? ⟨gb547, 4, none⟩ = some (.float .f64 ((rd_T58 l1 x5_1).f4)) ∧ w'.cell? ⟨gb547, 5, none⟩ = some (.int .i64 ((rd_T58 l1 x5_1).f5)) ∧ w'.cell? (ad546.add (((ji14)).toNat * 6)) = some (.int .i64 ((rd_T58 l1 (ji14)).f0)) ∧ w'.cell? ⟨(ad546.add (((ji14)).toNat * 6)).block, (ad546.add (((ji14)).toNat * 6)).off + 1, none⟩ = some (.int .i64 ((rd_T58 l1 (ji14)).f1)) ∧ w'.cell? ⟨(ad546.add (((ji14)).toNat * 6)).block, (ad546.add (((ji14)).toNat * 6)).off + 2, none⟩ = some (.float .f64 ((rd_T58 l1 (ji14)).f2)) ∧ w'.cell? ⟨(ad546.add (((ji14)).toNat * 6)).block, (ad546.add (((ji14)).toNat * 6)).off + 3, none⟩ = some (.int .i64 ((rd_T58 l1 (ji14)).f3)) ∧ w'.cell? ⟨(ad546.add (((ji14)).toNat * 6)).block, (ad546.add (((ji14)).toNat * 6)).off + 4, none⟩ = some (.float .f64 ((rd_T58 l1 (ji14)).f4)) ∧ w'.cell? ⟨(ad546.add (((ji14)).toNat * 6)).block, (ad546.add (((ji14)).toNat * 6)).off + 5, none⟩ = some (.int .i64 ((rd_T58 l1 (ji14)).f5))) (ds := []) (bz 30 0) (by kernel_rfl) rfl rfl ⟨(blk_cell BK547.out 0).trans rfl, (blk_cell BK547.out 1).trans rfl, (blk_cell BK547.out 2).trans rfl, (blk_cell BK547.out 3).trans rfl, (blk_cell BK547.out 4).trans rfl, (blk_cell BK547.out 5).trans rfl, ((HB.out.cell (World.block_lt_of_cell? w _ hw548_0)).trans hw548_0), ((HB.out.cell (World.block_lt_of_cell? w _ hw548_1)).trans hw548_1), ((HB.out.cell (World.block_lt_of_cell? w _ hw548_2)).trans hw548_2), ((HB.out.cell (World.block_lt_of_cell? w _ hw548_3)).trans hw548_3), ((HB.out.cell (World.block_lt_of_cell? w _ hw548_4)).trans hw548_4), ((HB.out.cell (World.block_lt_of_cell? w _ hw548_5)).trans hw548_5)⟩ (fun hHeld => ?_); refine with_tabW beaconref16_MayBalls.tab7 beaconref16_MayBalls.bits7 (fun HT_ HW_ => ?_)
               generalize wc.drew = w25 at BK547 HB hx548_0 hx548_1 hx548_2 hx548_3 hx548_4 hx548_5 hHeld ⊢
               refine pu2 0 (some 25) (bz 30 1) ?_
               refine pu2 1 (some 26) (bz 30 3) ?_
               refine pu2 2 (some 27) (bz 30 7) ?_
               refine pu2 3 (some 28) (bz 30 15) ?_
               refine pu2 4 (some 29) (bz 30 31) ?_
               refine pu2 5 (some 30) (bz 30 63) ?_
               refine pu2 6 (some 31) (bz 30 127) ?_
               refine tk2 7 (some 32) (bz 30 255) ?_
               refine tk2 8 (some 33) (bz 30 511) ?_
               refine one_ (i := 9) (N := some 34) (bz 30 1023) rfl rfl (one_of HT_.out (by kernel_rfl)) (by decide) (fun K hK => ?_)
               refine goes_ Try.func38 (by kernel_rfl) rfl #[.agg #[.int .i64 ((rd_T58 l1 (ji14)).f0), .int .i64 ((rd_T58 l1 (ji14)).f1), .float .f64 ((rd_T58 l1 (ji14)).f2), .int .i64 ((rd_T58 l1 (ji14)).f3), .float .f64 ((rd_T58 l1 (ji14)).f4), .int .i64 ((rd_T58 l1 (ji14)).f5)], .agg #[.int .i64 ((rd_T58 l1 x5_1).f0), .int .i64 ((rd_T58 l1 x5_1).f1), .float .f64 ((rd_T58 l1 x5_1).f2), .int .i64 ((rd_T58 l1 x5_1).f3), .float .f64 ((rd_T58 l1 x5_1).f4), .int .i64 ((rd_T58 l1 x5_1).f5)]] (by rfl) rfl rfl (by (try simp only [List.map_toArray, List.map_cons, List.map_nil]); first | done | (simp only [hji14]; rfl) | rfl | (simp only [List.length_drop, List.length_take]; rfl)) ?_
               with_reducible refine (beaconref16_ahead.calls ((rd_T58 l1 (ji14)).f0) ((rd_T58 l1 (ji14)).f1) ((rd_T58 l1 (ji14)).f2) ((rd_T58 l1 (ji14)).f3) ((rd_T58 l1 (ji14)).f4) ((rd_T58 l1 (ji14)).f5) ((rd_T58 l1 x5_1).f0) ((rd_T58 l1 x5_1).f1) ((rd_T58 l1 x5_1).f2) ((rd_T58 l1 x5_1).f3) ((rd_T58 l1 x5_1).f4) ((rd_T58 l1 x5_1).f5) true _ A17.out).mono ?_
               rintro e w26 ⟨rfl, hb⟩
               refine ⟨_, rfl, ?_⟩
               have n0_ := Aside0.mk (blk_below (g := gb547) (o := .cells #[.int .i64 ((rd_T58 l1 x5_1).f0), .int .i64 ((rd_T58 l1 x5_1).f1), .float .f64 ((rd_T58 l1 x5_1).f2), .int .i64 ((rd_T58 l1 x5_1).f3), .float .f64 ((rd_T58 l1 x5_1).f4), .int .i64 ((rd_T58 l1 x5_1).f5)] 58 (0, 0)) (kp BK547.out) hb)
               have n1_ := Aside0.mk (below_step (fb1 GE547) hb)
               clear BK547
               clear HB
               have BK547 := n0_
               have HB := n1_
               clear n0_ n1_
               (try clear hb)
               refine hK.out _ _ ⟨(blk_cell BK547.out 0).trans rfl, (blk_cell BK547.out 1).trans rfl, (blk_cell BK547.out 2).trans rfl, (blk_cell BK547.out 3).trans rfl, (blk_cell BK547.out 4).trans rfl, (blk_cell BK547.out 5).trans rfl, ((HB.out.cell (World.block_lt_of_cell? w _ hw548_0)).trans hw548_0), ((HB.out.cell (World.block_lt_of_cell? w _ hw548_1)).trans hw548_1), ((HB.out.cell (World.block_lt_of_cell? w _ hw548_2)).trans hw548_2), ((HB.out.cell (World.block_lt_of_cell? w _ hw548_3)).trans hw548_3), ((HB.out.cell (World.block_lt_of_cell? w _ hw548_4)).trans hw548_4), ((HB.out.cell (World.block_lt_of_cell? w _ hw548_5)).trans hw548_5)⟩ (fun hHeld => ?_)
               clear hK K
               refine norm_ (a' := ?_) ?_ ?_; rotate_left; show Act.put _ (some 34) _ = _; simp only [Act.put, qa, qb, qc, i64_w, i32_w]; rfl
               refine pu2 10 (some 35) (bz 30 2047) ?_
               refine pu2 11 (some 36) (bz 30 4095) ?_
               refine pu2 12 (some 37) (bz 30 8191) ?_
               refine pu2 13 (some 38) (bz 30 16383) ?_
               refine tk2 14 (some 39) (bz 30 32767) ?_
               refine one_ (i := 15) (N := some 40) (bz 30 65535) rfl rfl (one_of HT_.out (by kernel_rfl)) (by decide) (fun K hK => ?_)
               refine goes_ Try.func59 (by kernel_rfl) rfl #[.int .i64 ((rd_T58 l1 x5_1).f0)] (by rfl) rfl rfl (by (try simp only [List.map_toArray, List.map_cons, List.map_nil]); first | done | rfl | (simp only [List.length_drop, List.length_take]; rfl)) ?_
               with_reducible refine (beaconref16_number.calls kj4 ((rd_T58 l1 x5_1).f0) true _ A19.out).mono ?_
               rintro e w' ⟨rfl, ⟨nd, rfl⟩⟩
               refine ⟨_, rfl, ?_⟩
               refine hK.out _ _ ⟨(blk_cell BK547.out 0).trans rfl, (blk_cell BK547.out 1).trans rfl, (blk_cell BK547.out 2).trans rfl, (blk_cell BK547.out 3).trans rfl, (blk_cell BK547.out 4).trans rfl, (blk_cell BK547.out 5).trans rfl, ((HB.out.cell (World.block_lt_of_cell? w _ hw548_0)).trans hw548_0), ((HB.out.cell (World.block_lt_of_cell? w _ hw548_1)).trans hw548_1), ((HB.out.cell (World.block_lt_of_cell? w _ hw548_2)).trans hw548_2), ((HB.out.cell (World.block_lt_of_cell? w _ hw548_3)).trans hw548_3), ((HB.out.cell (World.block_lt_of_cell? w _ hw548_4)).trans hw548_4), ((HB.out.cell (World.block_lt_of_cell? w _ hw548_5)).trans hw548_5)⟩ (fun hHeld => ?_)
               clear hK K
               refine norm_ (a' := ?_) ?_ ?_; rotate_left; show Act.put _ (some 40) _ = _; simp only [Act.put, qa, qb, qc, i64_w, i32_w]; rfl
               refine pu2 16 (some 41) (bz 30 131071) ?_
               refine pu2 17 (some 42) (bz 30 262143) ?_
               refine pu2 18 (some 43) (bz 30 524287) ?_
               refine pu2 19 (some 44) (bz 30 1048575) ?_
               refine pu2 21 (some 46) (bz 30 3145727) ?_
               refine tk2 20 (some 45) (bz 30 4194303) ?_
               refine pu2 22 (some 47) (bz 30 8388607) ?_
               refine pu2 23 (some 48) (bz 30 16777215) ?_
               refine pu2 24 (some 49) (bz 30 33554431) ?_
               refine pu2 25 (some 50) (bz 30 67108863) ?_
               refine tk2 26 (some 51) (bz 30 134217727) ?_
               refine one_ (i := 27) (N := some 52) (bz 30 268435455) rfl rfl (one_of HT_.out (by kernel_rfl)) (by decide) (fun K hK => ?_)
               refine goes_ Try.func59 (by kernel_rfl) rfl #[.int .i64 ((rd_T58 l1 x5_1).f3)] (by rfl) rfl rfl (by (try simp only [List.map_toArray, List.map_cons, List.map_nil]); first | done | rfl | (simp only [List.length_drop, List.length_take]; rfl)) ?_
               with_reducible refine (beaconref16_number.calls kj4 ((rd_T58 l1 x5_1).f3) t551 _ A24.out).mono ?_
               rintro e w' ⟨rfl, ⟨nd, rfl⟩⟩
               refine ⟨_, rfl, ?_⟩
               refine hK.out _ _ ⟨(blk_cell BK547.out 0).trans rfl, (blk_cell BK547.out 1).trans rfl, (blk_cell BK547.out 2).trans rfl, (blk_cell BK547.out 3).trans rfl, (blk_cell BK547.out 4).trans rfl, (blk_cell BK547.out 5).trans rfl, ((HB.out.cell (World.block_lt_of_cell? w _ hw548_0)).trans hw548_0), ((HB.out.cell (World.block_lt_of_cell? w _ hw548_1)).trans hw548_1), ((HB.out.cell (World.block_lt_of_cell? w _ hw548_2)).trans hw548_2), ((HB.out.cell (World.block_lt_of_cell? w _ hw548_3)).trans hw548_3), ((HB.out.cell (World.block_lt_of_cell? w _ hw548_4)).trans hw548_4), ((HB.out.cell (World.block_lt_of_cell? w _ hw548_5)).trans hw548_5)⟩ (fun hHeld => ?_)
               clear hK K
               refine norm_ (a' := ?_) ?_ ?_; rotate_left; show Act.put _ (some 52) _ = _; simp only [Act.put, qa, qb, qc, i64_w, i32_w]; rfl
               refine pu2 28 (some 53) (bz 30 536870911) ?_
               refine pu2 29 (some 54) (bz 30 1073741823) ?_
               refine done_ (done_of HT_.out (by kernel_rfl)) ?_
               try go_wp2
               go_meet
               case rel => exact ⟨_, (!t551), fz, H', ⟨by have := HK1.out; have := HJ4.out; exact fl⟩, ⟨kp BK547.out⟩, ⟨fb1 GE547⟩⟩
             ·obtain rfl := bf_ c20
              rw [if_neg nf_] at H
              have H' := Aside0.mk H
              clear H
              try go_wp2
              have n0_ := Aside0.mk (blk_drew BK547.out)
              have n1_ := Aside0.mk (below_drew1 HB.out)
              clear BK547
              clear HB
              have BK547 := n0_
              have HB := n1_
              clear n0_ n1_
              have p548 : 0 ≤ ((ji14) : Int) := of_decide_eq_true (by first | (with_reducible assumption) | assumption)
              have q548 : (ji14) < (l1.length : Int) := of_decide_eq_true (by first | (with_reducible assumption) | assumption)
              obtain ⟨ad548, e548, hx548_0, hx548_1, hx548_2, hx548_3, hx548_4, hx548_5⟩ := at_T58 HR1.out (ji14) p548 q548
              have hw548_5 := hx548_5
              have hw548_4 := hx548_4
              have hw548_3 := hx548_3
              have hw548_2 := hx548_2
              have hw548_1 := hx548_1
              have hw548_0 := hx548_0
              obtain rfl : ad546 = ad548 := (by injection e548)
              replace hx548_0 := pw_cell_below HB.out hx548_0
              replace hx548_1 := pw_cell_below HB.out hx548_1
              replace hx548_2 := pw_cell_below HB.out hx548_2
              replace hx548_3 := pw_cell_below HB.out hx548_3
              replace hx548_4 := pw_cell_below HB.out hx548_4
              replace hx548_5 := pw_cell_below HB.out hx548_5
              replace p548 := eq_true p548
              replace q548 := eq_true q548
              refine start_ (n := 30) (S := fun w' => w'.cell? ⟨gb547, 0, none⟩ = some (.int .i64 ((rd_T58 l1 x5_1).f0)) ∧ w'.cell? ⟨gb547, 1, none⟩ = some (.int .i64 ((rd_T58 l1 x5_1).f1)) ∧ w'.cell? ⟨gb547, 2, none⟩ = some (.float .f64 ((rd_T58 l1 x5_1).f2)) ∧ w'.cell? ⟨gb547, 3, none⟩ = some (.int .i64 ((rd_T58 l1 x5_1).f3)) ∧ w'.cell? ⟨gb547, 4, none⟩ = some (.float .f64 ((rd_T58 l1 x5_1).f4)) ∧ w'.cell? ⟨gb547, 5, none⟩ = some (.int .i64 ((rd_T58 l1 x5_1).f5)) ∧ w'.cell? (ad546.add (((ji14)).toNat * 6)) = some (.int .i64 ((rd_T58 l1 (ji14)).f0)) ∧ w'.cell? ⟨(ad546.add (((ji14)).toNat * 6)).block, (ad546.add (((ji14)).toNat * 6)).off + 1, none⟩ = some (.int .i64 ((rd_T58 l1 (ji14)).f1)) ∧ w'.cell? ⟨(ad546.add (((ji14)).toNat * 6)).block, (ad546.add (((ji14)).toNat * 6)).off + 2, none⟩ = some (.float .f64 ((rd_T58 l1 (ji14)).f2)) ∧ w'.cell? ⟨(ad546.add (((ji14)).toNat * 6)).block, (ad546.add (((ji14)).toNat * 6)).off + 3, none⟩ = some (.int .i64 ((rd_T58 l1 (ji14)).f3)) ∧ w'.cell? ⟨(ad546.add (((ji14)).toNat * 6)).block, (ad546.add (((ji14)).toNat * 6)).off + 4, none⟩ = some (.float .f64 ((rd_T58 l1 (ji14)).f4)) ∧ w'.cell? ⟨(ad546.add (((ji14)).toNat * 6)).block, (ad546.add (((ji14)).toNat * 6)).off + 5, none⟩ = some (.int .i64 ((rd_T58 l1 (ji14)).f5))) (ds := []) (bz 30 0) (by kernel_rfl) rfl rfl ⟨(blk_cell BK547.out 0).trans rfl, (blk_cell BK547.out 1).trans rfl, (blk_cell BK547.out 2).trans rfl, (blk_cell BK547.out 3).trans rfl, (blk_cell BK547.out 4).trans rfl, (blk_cell BK547.out 5).trans rfl, ((HB.out.cell (World.block_lt_of_cell? w _ hw548_0)).trans hw548_0), ((HB.out.cell (World.block_lt_of_cell? w _ hw548_1)).trans hw548_1), ((HB.out.cell (World.block_lt_of_cell? w _ hw548_2)).trans hw548_2), ((HB.out.cell (World.block_lt_of_cell? w _ hw548_3)).trans hw548_3), ((HB.out.cell (World.block_lt_of_cell? w _ hw548_4)).trans hw548_4), ((HB.out.cell (World.block_lt_of_cell? w _ hw548_5)).trans hw548_5)⟩ (fun hHeld => ?_); refine with_tabW beaconref16_MayBalls.tab7 beaconref16_MayBalls.bits7 (fun HT_ HW_ => ?_)
              generalize wc.drew = w27 at BK547 HB hx548_0 hx548_1 hx548_2 hx548_3 hx548_4 hx548_5 hHeld ⊢
              refine pu2 0 (some 25) (bz 30 1) ?_
              refine pu2 1 (some 26) (bz 30 3) ?_
              refine pu2 2 (some 27) (bz 30 7) ?_
              refine pu2 3 (some 28) (bz 30 15) ?_
              refine pu2 4 (some 29) (bz 30 31) ?_
              refine pu2 5 (some 30) (bz 30 63) ?_
              refine pu2 6 (some 31) (bz 30 127) ?_
              refine tk2 7 (some 32) (bz 30 255) ?_
              refine tk2 8 (some 33) (bz 30 511) ?_
              refine one_ (i := 9) (N := some 34) (bz 30 1023) rfl rfl (one_of HT_.out (by kernel_rfl)) (by decide) (fun K hK => ?_)
              refine goes_ Try.func38 (by kernel_rfl) rfl #[.agg #[.int .i64 ((rd_T58 l1 (ji14)).f0), .int .i64 ((rd_T58 l1 (ji14)).f1), .float .f64 ((rd_T58 l1 (ji14)).f2), .int .i64 ((rd_T58 l1 (ji14)).f3), .float .f64 ((rd_T58 l1 (ji14)).f4), .int .i64 ((rd_T58 l1 (ji14)).f5)], .agg #[.int .i64 ((rd_T58 l1 x5_1).f0), .int .i64 ((rd_T58 l1 x5_1).f1), .float .f64 ((rd_T58 l1 x5_1).f2), .int .i64 ((rd_T58 l1 x5_1).f3), .float .f64 ((rd_T58 l1 x5_1).f4), .int .i64 ((rd_T58 l1 x5_1).f5)]] (by rfl) rfl rfl (by (try simp only [List.map_toArray, List.map_cons, List.map_nil]); first | done | (simp only [hji14]; rfl) | rfl | (simp only [List.length_drop, List.length_take]; rfl)) ?_
              with_reducible refine (beaconref16_ahead.calls ((rd_T58 l1 (ji14)).f0) ((rd_T58 l1 (ji14)).f1) ((rd_T58 l1 (ji14)).f2) ((rd_T58 l1 (ji14)).f3) ((rd_T58 l1 (ji14)).f4) ((rd_T58 l1 (ji14)).f5) ((rd_T58 l1 x5_1).f0) ((rd_T58 l1 x5_1).f1) ((rd_T58 l1 x5_1).f2) ((rd_T58 l1 x5_1).f3) ((rd_T58 l1 x5_1).f4) ((rd_T58 l1 x5_1).f5) true _ A17.out).mono ?_
              rintro e w28 ⟨rfl, hb⟩
              refine ⟨_, rfl, ?_⟩
              have n0_ := Aside0.mk (blk_below (g := gb547) (o := .cells #[.int .i64 ((rd_T58 l1 x5_1).f0), .int .i64 ((rd_T58 l1 x5_1).f1), .float .f64 ((rd_T58 l1 x5_1).f2), .int .i64 ((rd_T58 l1 x5_1).f3), .float .f64 ((rd_T58 l1 x5_1).f4), .int .i64 ((rd_T58 l1 x5_1).f5)] 58 (0, 0)) (kp BK547.out) hb)
              have n1_ := Aside0.mk (below_step (fb1 GE547) hb)
              clear BK547
              clear HB
              have BK547 := n0_
              have HB := n1_
              clear n0_ n1_
              (try clear hb)
              refine hK.out _ _ ⟨(blk_cell BK547.out 0).trans rfl, (blk_cell BK547.out 1).trans rfl, (blk_cell BK547.out 2).trans rfl, (blk_cell BK547.out 3).trans rfl, (blk_cell BK547.out 4).trans rfl, (blk_cell BK547.out 5).trans rfl, ((HB.out.cell (World.block_lt_of_cell? w _ hw548_0)).trans hw548_0), ((HB.out.cell (World.block_lt_of_cell? w _ hw548_1)).trans hw548_1), ((HB.out.cell (World.block_lt_of_cell? w _ hw548_2)).trans hw548_2), ((HB.out.cell (World.block_lt_of_cell? w _ hw548_3)).trans hw548_3), ((HB.out.cell (World.block_lt_of_cell? w _ hw548_4)).trans hw548_4), ((HB.out.cell (World.block_lt_of_cell? w _ hw548_5)).trans hw548_5)⟩ (fun hHeld => ?_)
              clear hK K
              refine norm_ (a' := ?_) ?_ ?_; rotate_left; show Act.put _ (some 34) _ = _; simp only [Act.put, qa, qb, qc, i64_w, i32_w]; rfl
              refine pu2 10 (some 35) (bz 30 2047) ?_
              refine pu2 11 (some 36) (bz 30 4095) ?_
              refine pu2 12 (some 37) (bz 30 8191) ?_
              refine pu2 13 (some 38) (bz 30 16383) ?_
              refine tk2 14 (some 39) (bz 30 32767) ?_
              refine one_ (i := 15) (N := some 40) (bz 30 65535) rfl rfl (one_of HT_.out (by kernel_rfl)) (by decide) (fun K hK => ?_)
              refine goes_ Try.func59 (by kernel_rfl) rfl #[.int .i64 ((rd_T58 l1 x5_1).f0)] (by rfl) rfl rfl (by (try simp only [List.map_toArray, List.map_cons, List.map_nil]); first | done | rfl | (simp only [List.length_drop, List.length_take]; rfl)) ?_
              with_reducible refine (beaconref16_number.calls kj4 ((rd_T58 l1 x5_1).f0) false _ A19.out).mono ?_
              rintro e w' ⟨rfl, ⟨nd, rfl⟩⟩
              refine ⟨_, rfl, ?_⟩
              refine hK.out _ _ ⟨(blk_cell BK547.out 0).trans rfl, (blk_cell BK547.out 1).trans rfl, (blk_cell BK547.out 2).trans rfl, (blk_cell BK547.out 3).trans rfl, (blk_cell BK547.out 4).trans rfl, (blk_cell BK547.out 5).trans rfl, ((HB.out.cell (World.block_lt_of_cell? w _ hw548_0)).trans hw548_0), ((HB.out.cell (World.block_lt_of_cell? w _ hw548_1)).trans hw548_1), ((HB.out.cell (World.block_lt_of_cell? w _ hw548_2)).trans hw548_2), ((HB.out.cell (World.block_lt_of_cell? w _ hw548_3)).trans hw548_3), ((HB.out.cell (World.block_lt_of_cell? w _ hw548_4)).trans hw548_4), ((HB.out.cell (World.block_lt_of_cell? w _ hw548_5)).trans hw548_5)⟩ (fun hHeld => ?_)
              clear hK K
              refine norm_ (a' := ?_) ?_ ?_; rotate_left; show Act.put _ (some 40) _ = _; simp only [Act.put, qa, qb, qc, i64_w, i32_w]; rfl
              refine pu2 16 (some 41) (bz 30 131071) ?_
              refine pu2 17 (some 42) (bz 30 262143) ?_
              refine pu2 18 (some 43) (bz 30 524287) ?_
              refine pz2 19 (some 44) (bz 30 1048575) ?_
              refine pz2 20 (some 45) (bz 30 2097151) ?_
              refine pz2 21 (some 46) (bz 30 4194303) ?_
              refine pz2 22 (some 47) (bz 30 8388607) ?_
              refine pu2 23 (some 48) (bz 30 16777215) ?_
              refine pu2 24 (some 49) (bz 30 33554431) ?_
              refine pz2 25 (some 50) (bz 30 67108863) ?_
              refine pz2 26 (some 51) (bz 30 134217727) ?_
              refine pz2 27 (some 52) (bz 30 268435455) ?_
              refine pz2 28 (some 53) (bz 30 536870911) ?_
              refine pu2 29 (some 54) (bz 30 1073741823) ?_
              refine done_ (done_of HT_.out (by kernel_rfl)) ?_
              try go_wp2
              go_meet
              case rel => exact ⟨_, (true), fz, H', ⟨by have := HK1.out; have := HJ4.out; exact fl⟩, ⟨kp BK547.out⟩, ⟨fb1 GE547⟩⟩
            ·obtain rfl := bf_ c18
             rw [if_neg nf_] at H
             have H' := Aside0.mk H
             clear H
             try go_wp2
             have n0_ := Aside0.mk (blk_drew BK547.out)
             have n1_ := Aside0.mk (below_drew1 HB.out)
             clear BK547
             clear HB
             have BK547 := n0_
             have HB := n1_
             clear n0_ n1_
             have p548 : 0 ≤ ((ji14) : Int) := of_decide_eq_true (by first | (with_reducible assumption) | assumption)
             have q548 : (ji14) < (l1.length : Int) := of_decide_eq_true (by first | (with_reducible assumption) | assumption)
             obtain ⟨ad548, e548, hx548_0, hx548_1, hx548_2, hx548_3, hx548_4, hx548_5⟩ := at_T58 HR1.out (ji14) p548 q548
             have hw548_5 := hx548_5
             have hw548_4 := hx548_4
             have hw548_3 := hx548_3
             have hw548_2 := hx548_2
             have hw548_1 := hx548_1
             have hw548_0 := hx548_0
             obtain rfl : ad546 = ad548 := (by injection e548)
             replace hx548_0 := pw_cell_below HB.out hx548_0
             replace hx548_1 := pw_cell_below HB.out hx548_1
             replace hx548_2 := pw_cell_below HB.out hx548_2
             replace hx548_3 := pw_cell_below HB.out hx548_3
             replace hx548_4 := pw_cell_below HB.out hx548_4
             replace hx548_5 := pw_cell_below HB.out hx548_5
             replace p548 := eq_true p548
             replace q548 := eq_true q548
             refine start_ (n := 30) (S := fun w' => w'.cell? ⟨gb547, 0, none⟩ = some (.int .i64 ((rd_T58 l1 x5_1).f0)) ∧ w'.cell? ⟨gb547, 1, none⟩ = some (.int .i64 ((rd_T58 l1 x5_1).f1)) ∧ w'.cell? ⟨gb547, 2, none⟩ = some (.float .f64 ((rd_T58 l1 x5_1).f2)) ∧ w'.cell? ⟨gb547, 3, none⟩ = some (.int .i64 ((rd_T58 l1 x5_1).f3)) ∧ w'.cell? ⟨gb547, 4, none⟩ = some (.float .f64 ((rd_T58 l1 x5_1).f4)) ∧ w'.cell? ⟨gb547, 5, none⟩ = some (.int .i64 ((rd_T58 l1 x5_1).f5)) ∧ w'.cell? (ad546.add (((ji14)).toNat * 6)) = some (.int .i64 ((rd_T58 l1 (ji14)).f0)) ∧ w'.cell? ⟨(ad546.add (((ji14)).toNat * 6)).block, (ad546.add (((ji14)).toNat * 6)).off + 1, none⟩ = some (.int .i64 ((rd_T58 l1 (ji14)).f1)) ∧ w'.cell? ⟨(ad546.add (((ji14)).toNat * 6)).block, (ad546.add (((ji14)).toNat * 6)).off + 2, none⟩ = some (.float .f64 ((rd_T58 l1 (ji14)).f2)) ∧ w'.cell? ⟨(ad546.add (((ji14)).toNat * 6)).block, (ad546.add (((ji14)).toNat * 6)).off + 3, none⟩ = some (.int .i64 ((rd_T58 l1 (ji14)).f3)) ∧ w'.cell? ⟨(ad546.add (((ji14)).toNat * 6)).block, (ad546.add (((ji14)).toNat * 6)).off + 4, none⟩ = some (.float .f64 ((rd_T58 l1 (ji14)).f4)) ∧ w'.cell? ⟨(ad546.add (((ji14)).toNat * 6)).block, (ad546.add (((ji14)).toNat * 6)).off + 5, none⟩ = some (.int .i64 ((rd_T58 l1 (ji14)).f5))) (ds := []) (bz 30 0) (by kernel_rfl) rfl rfl ⟨(blk_cell BK547.out 0).trans rfl, (blk_cell BK547.out 1).trans rfl, (blk_cell BK547.out 2).trans rfl, (blk_cell BK547.out 3).trans rfl, (blk_cell BK547.out 4).trans rfl, (blk_cell BK547.out 5).trans rfl, ((HB.out.cell (World.block_lt_of_cell? w _ hw548_0)).trans hw548_0), ((HB.out.cell (World.block_lt_of_cell? w _ hw548_1)).trans hw548_1), ((HB.out.cell (World.block_lt_of_cell? w _ hw548_2)).trans hw548_2), ((HB.out.cell (World.block_lt_of_cell? w _ hw548_3)).trans hw548_3), ((HB.out.cell (World.block_lt_of_cell? w _ hw548_4)).trans hw548_4), ((HB.out.cell (World.block_lt_of_cell? w _ hw548_5)).trans hw548_5)⟩ (fun hHeld => ?_); refine with_tabW beaconref16_MayBalls.tab7 beaconref16_MayBalls.bits7 (fun HT_ HW_ => ?_)
             generalize wc.drew = w29 at BK547 HB hx548_0 hx548_1 hx548_2 hx548_3 hx548_4 hx548_5 hHeld ⊢
             refine pu2 0 (some 25) (bz 30 1) ?_
             refine pu2 1 (some 26) (bz 30 3) ?_
             refine pu2 2 (some 27) (bz 30 7) ?_
             refine pu2 3 (some 28) (bz 30 15) ?_
             refine pu2 4 (some 29) (bz 30 31) ?_
             refine pu2 5 (some 30) (bz 30 63) ?_
             refine pu2 6 (some 31) (bz 30 127) ?_
             refine tk2 7 (some 32) (bz 30 255) ?_
             refine tk2 8 (some 33) (bz 30 511) ?_
             refine one_ (i := 9) (N := some 34) (bz 30 1023) rfl rfl (one_of HT_.out (by kernel_rfl)) (by decide) (fun K hK => ?_)
             refine goes_ Try.func38 (by kernel_rfl) rfl #[.agg #[.int .i64 ((rd_T58 l1 (ji14)).f0), .int .i64 ((rd_T58 l1 (ji14)).f1), .float .f64 ((rd_T58 l1 (ji14)).f2), .int .i64 ((rd_T58 l1 (ji14)).f3), .float .f64 ((rd_T58 l1 (ji14)).f4), .int .i64 ((rd_T58 l1 (ji14)).f5)], .agg #[.int .i64 ((rd_T58 l1 x5_1).f0), .int .i64 ((rd_T58 l1 x5_1).f1), .float .f64 ((rd_T58 l1 x5_1).f2), .int .i64 ((rd_T58 l1 x5_1).f3), .float .f64 ((rd_T58 l1 x5_1).f4), .int .i64 ((rd_T58 l1 x5_1).f5)]] (by rfl) rfl rfl (by (try simp only [List.map_toArray, List.map_cons, List.map_nil]); first | done | (simp only [hji14]; rfl) | rfl | (simp only [List.length_drop, List.length_take]; rfl)) ?_
             with_reducible refine (beaconref16_ahead.calls ((rd_T58 l1 (ji14)).f0) ((rd_T58 l1 (ji14)).f1) ((rd_T58 l1 (ji14)).f2) ((rd_T58 l1 (ji14)).f3) ((rd_T58 l1 (ji14)).f4) ((rd_T58 l1 (ji14)).f5) ((rd_T58 l1 x5_1).f0) ((rd_T58 l1 x5_1).f1) ((rd_T58 l1 x5_1).f2) ((rd_T58 l1 x5_1).f3) ((rd_T58 l1 x5_1).f4) ((rd_T58 l1 x5_1).f5) false _ A17.out).mono ?_
             rintro e w30 ⟨rfl, hb⟩
             refine ⟨_, rfl, ?_⟩
             have n0_ := Aside0.mk (blk_below (g := gb547) (o := .cells #[.int .i64 ((rd_T58 l1 x5_1).f0), .int .i64 ((rd_T58 l1 x5_1).f1), .float .f64 ((rd_T58 l1 x5_1).f2), .int .i64 ((rd_T58 l1 x5_1).f3), .float .f64 ((rd_T58 l1 x5_1).f4), .int .i64 ((rd_T58 l1 x5_1).f5)] 58 (0, 0)) (kp BK547.out) hb)
             have n1_ := Aside0.mk (below_step (fb1 GE547) hb)
             clear BK547
             clear HB
             have BK547 := n0_
             have HB := n1_
             clear n0_ n1_
             (try clear hb)
             refine hK.out _ _ ⟨(blk_cell BK547.out 0).trans rfl, (blk_cell BK547.out 1).trans rfl, (blk_cell BK547.out 2).trans rfl, (blk_cell BK547.out 3).trans rfl, (blk_cell BK547.out 4).trans rfl, (blk_cell BK547.out 5).trans rfl, ((HB.out.cell (World.block_lt_of_cell? w _ hw548_0)).trans hw548_0), ((HB.out.cell (World.block_lt_of_cell? w _ hw548_1)).trans hw548_1), ((HB.out.cell (World.block_lt_of_cell? w _ hw548_2)).trans hw548_2), ((HB.out.cell (World.block_lt_of_cell? w _ hw548_3)).trans hw548_3), ((HB.out.cell (World.block_lt_of_cell? w _ hw548_4)).trans hw548_4), ((HB.out.cell (World.block_lt_of_cell? w _ hw548_5)).trans hw548_5)⟩ (fun hHeld => ?_)
             clear hK K
             refine norm_ (a' := ?_) ?_ ?_; rotate_left; show Act.put _ (some 34) _ = _; simp only [Act.put, qa, qb, qc, i64_w, i32_w]; rfl
             refine pu2 10 (some 35) (bz 30 2047) ?_
             refine pu2 11 (some 36) (bz 30 4095) ?_
             refine pu2 12 (some 37) (bz 30 8191) ?_
             refine pz2 13 (some 38) (bz 30 16383) ?_
             refine pz2 14 (some 39) (bz 30 32767) ?_
             refine pz2 15 (some 40) (bz 30 65535) ?_
             refine pz2 16 (some 41) (bz 30 131071) ?_
             refine pu2 17 (some 42) (bz 30 262143) ?_
             refine pu2 18 (some 43) (bz 30 524287) ?_
             refine pz2 19 (some 44) (bz 30 1048575) ?_
             refine pz2 20 (some 45) (bz 30 2097151) ?_
             refine pz2 21 (some 46) (bz 30 4194303) ?_
             refine pz2 22 (some 47) (bz 30 8388607) ?_
             refine pu2 23 (some 48) (bz 30 16777215) ?_
             refine pu2 24 (some 49) (bz 30 33554431) ?_
             refine pz2 25 (some 50) (bz 30 67108863) ?_
             refine pz2 26 (some 51) (bz 30 134217727) ?_
             refine pz2 27 (some 52) (bz 30 268435455) ?_
             refine pz2 28 (some 53) (bz 30 536870911) ?_
             refine pu2 29 (some 54) (bz 30 1073741823) ?_
             refine done_ (done_of HT_.out (by kernel_rfl)) ?_
             try go_wp2
             go_meet
             case rel => exact ⟨_, (true), fz, H', ⟨by have := HK1.out; have := HJ4.out; exact fl⟩, ⟨kp BK547.out⟩, ⟨fb1 GE547⟩⟩
           ·rw [if_neg c16] at H
            exact absurd H (by simp)
          ·rw [if_neg c15] at H
           exact absurd H (by simp)
         ·rw [if_neg c13] at H
          have c13b0 := decide_eq_false c13
          clear c13
          (first | rw [c13b0] | (simp only [i64_w, i32_w]; rw [c13b0]) | skip)
          replace H := bs_ H; obtain ⟨t552, A31, H⟩ := H
          by_cases c32 : t552 = true
          ·subst c32
           rw [if_pos rfl] at H
           by_cases c33 : ((rd_T58 l1 x5_1).f0) = a0
           ·rw [if_pos c33] at H
            have c33b0 := be_ c33
            have c33b1 := bg_ c33
            clear c33
            have H' := Aside0.mk H
            clear H
            try go_wp2
            have n0_ := Aside0.mk (blk_drew BK547.out)
            have n1_ := Aside0.mk (below_drew1 HB.out)
            clear BK547
            clear HB
            have BK547 := n0_
            have HB := n1_
            clear n0_ n1_
            refine start_ (n := 30) (S := fun w' => w'.cell? ⟨gb547, 0, none⟩ = some (.int .i64 ((rd_T58 l1 x5_1).f0)) ∧ w'.cell? ⟨gb547, 1, none⟩ = some (.int .i64 ((rd_T58 l1 x5_1).f1)) ∧ w'.cell? ⟨gb547, 2, none⟩ = some (.float .f64 ((rd_T58 l1 x5_1).f2)) ∧ w'.cell? ⟨gb547, 3, none⟩ = some (.int .i64 ((rd_T58 l1 x5_1).f3)) ∧ w'.cell? ⟨gb547, 4, none⟩ = some (.float .f64 ((rd_T58 l1 x5_1).f4)) ∧ w'.cell? ⟨gb547, 5, none⟩ = some (.int .i64 ((rd_T58 l1 x5_1).f5))) (ds := []) (bz 30 0) (by kernel_rfl) rfl rfl ⟨(blk_cell BK547.out 0).trans rfl, (blk_cell BK547.out 1).trans rfl, (blk_cell BK547.out 2).trans rfl, (blk_cell BK547.out 3).trans rfl, (blk_cell BK547.out 4).trans rfl, (blk_cell BK547.out 5).trans rfl⟩ (fun hHeld => ?_); refine with_tabW beaconref16_MayBalls.tab7 beaconref16_MayBalls.bits7 (fun HT_ HW_ => ?_)
            generalize wc.drew = w34 at BK547 HB hHeld ⊢
            refine pu2 0 (some 25) (bz 30 1) ?_
            refine pu2 1 (some 26) (bz 30 3) ?_
            refine pu2 2 (some 27) (bz 30 7) ?_
            refine pz2 3 (some 28) (bz 30 15) ?_
            refine pz2 4 (some 29) (bz 30 31) ?_
            refine pz2 5 (some 30) (bz 30 63) ?_
            refine pz2 6 (some 31) (bz 30 127) ?_
            refine pz2 7 (some 32) (bz 30 255) ?_
            refine pz2 8 (some 33) (bz 30 511) ?_
            refine pz2 9 (some 34) (bz 30 1023) ?_
            refine pz2 10 (some 35) (bz 30 2047) ?_
            refine pu2 11 (some 36) (bz 30 4095) ?_
            refine pu2 12 (some 37) (bz 30 8191) ?_
            refine pu2 13 (some 38) (bz 30 16383) ?_
            refine tk2 14 (some 39) (bz 30 32767) ?_
            refine one_ (i := 15) (N := some 40) (bz 30 65535) rfl rfl (one_of HT_.out (by kernel_rfl)) (by decide) (fun K hK => ?_)
            refine goes_ Try.func59 (by kernel_rfl) rfl #[.int .i64 ((rd_T58 l1 x5_1).f0)] (by rfl) rfl rfl (by (try simp only [List.map_toArray, List.map_cons, List.map_nil]); first | done | rfl | (simp only [List.length_drop, List.length_take]; rfl)) ?_
            with_reducible refine (beaconref16_number.calls kj4 ((rd_T58 l1 x5_1).f0) true _ A31.out).mono ?_
            rintro e w' ⟨rfl, ⟨nd, rfl⟩⟩
            refine ⟨_, rfl, ?_⟩
            refine hK.out _ _ ⟨(blk_cell BK547.out 0).trans rfl, (blk_cell BK547.out 1).trans rfl, (blk_cell BK547.out 2).trans rfl, (blk_cell BK547.out 3).trans rfl, (blk_cell BK547.out 4).trans rfl, (blk_cell BK547.out 5).trans rfl⟩ (fun hHeld => ?_)
            clear hK K
            refine norm_ (a' := ?_) ?_ ?_; rotate_left; show Act.put _ (some 40) _ = _; simp only [Act.put, qa, qb, qc, i64_w, i32_w]; rfl
            refine pu2 16 (some 41) (bz 30 131071) ?_
            refine pu2 17 (some 42) (bz 30 262143) ?_
            refine pu2 18 (some 43) (bz 30 524287) ?_
            refine pu2 19 (some 44) (bz 30 1048575) ?_
            refine pu2 21 (some 46) (bz 30 3145727) ?_
            refine tk2 20 (some 45) (bz 30 4194303) ?_
            refine pu2 22 (some 47) (bz 30 8388607) ?_
            refine pu2 23 (some 48) (bz 30 16777215) ?_
            refine pu2 24 (some 49) (bz 30 33554431) ?_
            refine pz2 25 (some 50) (bz 30 67108863) ?_
            refine pz2 26 (some 51) (bz 30 134217727) ?_
            refine pz2 27 (some 52) (bz 30 268435455) ?_
            refine pz2 28 (some 53) (bz 30 536870911) ?_
            refine pu2 29 (some 54) (bz 30 1073741823) ?_
            refine done_ (done_of HT_.out (by kernel_rfl)) ?_
            try go_wp2
            go_meet
            case rel => exact ⟨_, (true), fz, H', ⟨by have := HK1.out; have := HJ4.out; exact fl⟩, ⟨kp BK547.out⟩, ⟨fb1 GE547⟩⟩
           ·rw [if_neg c33] at H
            have c33b0 := bh_ c33
            have c33b1 := bi_ c33
            replace H := bs_ H; obtain ⟨t553, A35, H⟩ := H
            have H' := Aside0.mk H
            clear H
            try go_wp2
            have n0_ := Aside0.mk (blk_drew BK547.out)
            have n1_ := Aside0.mk (below_drew1 HB.out)
            clear BK547
            clear HB
            have BK547 := n0_
            have HB := n1_
            clear n0_ n1_
            refine start_ (n := 30) (S := fun w' => w'.cell? ⟨gb547, 0, none⟩ = some (.int .i64 ((rd_T58 l1 x5_1).f0)) ∧ w'.cell? ⟨gb547, 1, none⟩ = some (.int .i64 ((rd_T58 l1 x5_1).f1)) ∧ w'.cell? ⟨gb547, 2, none⟩ = some (.float .f64 ((rd_T58 l1 x5_1).f2)) ∧ w'.cell? ⟨gb547, 3, none⟩ = some (.int .i64 ((rd_T58 l1 x5_1).f3)) ∧ w'.cell? ⟨gb547, 4, none⟩ = some (.float .f64 ((rd_T58 l1 x5_1).f4)) ∧ w'.cell? ⟨gb547, 5, none⟩ = some (.int .i64 ((rd_T58 l1 x5_1).f5))) (ds := []) (bz 30 0) (by kernel_rfl) rfl rfl ⟨(blk_cell BK547.out 0).trans rfl, (blk_cell BK547.out 1).trans rfl, (blk_cell BK547.out 2).trans rfl, (blk_cell BK547.out 3).trans rfl, (blk_cell BK547.out 4).trans rfl, (blk_cell BK547.out 5).trans rfl⟩ (fun hHeld => ?_); refine with_tabW beaconref16_MayBalls.tab7 beaconref16_MayBalls.bits7 (fun HT_ HW_ => ?_)
            generalize wc.drew = w36 at BK547 HB hHeld ⊢
            refine pu2 0 (some 25) (bz 30 1) ?_
            refine pu2 1 (some 26) (bz 30 3) ?_
            refine pu2 2 (some 27) (bz 30 7) ?_
            refine pz2 3 (some 28) (bz 30 15) ?_
            refine pz2 4 (some 29) (bz 30 31) ?_
            refine pz2 5 (some 30) (bz 30 63) ?_
            refine pz2 6 (some 31) (bz 30 127) ?_
            refine pz2 7 (some 32) (bz 30 255) ?_
            refine pz2 8 (some 33) (bz 30 511) ?_
            refine pz2 9 (some 34) (bz 30 1023) ?_
            refine pz2 10 (some 35) (bz 30 2047) ?_
            refine pu2 11 (some 36) (bz 30 4095) ?_
            refine pu2 12 (some 37) (bz 30 8191) ?_
            refine pu2 13 (some 38) (bz 30 16383) ?_
            refine tk2 14 (some 39) (bz 30 32767) ?_
            refine one_ (i := 15) (N := some 40) (bz 30 65535) rfl rfl (one_of HT_.out (by kernel_rfl)) (by decide) (fun K hK => ?_)
            refine goes_ Try.func59 (by kernel_rfl) rfl #[.int .i64 ((rd_T58 l1 x5_1).f0)] (by rfl) rfl rfl (by (try simp only [List.map_toArray, List.map_cons, List.map_nil]); first | done | rfl | (simp only [List.length_drop, List.length_take]; rfl)) ?_
            with_reducible refine (beaconref16_number.calls kj4 ((rd_T58 l1 x5_1).f0) true _ A31.out).mono ?_
            rintro e w' ⟨rfl, ⟨nd, rfl⟩⟩
            refine ⟨_, rfl, ?_⟩
            refine hK.out _ _ ⟨(blk_cell BK547.out 0).trans rfl, (blk_cell BK547.out 1).trans rfl, (blk_cell BK547.out 2).trans rfl, (blk_cell BK547.out 3).trans rfl, (blk_cell BK547.out 4).trans rfl, (blk_cell BK547.out 5).trans rfl⟩ (fun hHeld => ?_)
            clear hK K
            refine norm_ (a' := ?_) ?_ ?_; rotate_left; show Act.put _ (some 40) _ = _; simp only [Act.put, qa, qb, qc, i64_w, i32_w]; rfl
            refine pu2 16 (some 41) (bz 30 131071) ?_
            refine pu2 17 (some 42) (bz 30 262143) ?_
            refine pu2 18 (some 43) (bz 30 524287) ?_
            refine pu2 19 (some 44) (bz 30 1048575) ?_
            refine pu2 21 (some 46) (bz 30 3145727) ?_
            refine tk2 20 (some 45) (bz 30 4194303) ?_
            refine pu2 22 (some 47) (bz 30 8388607) ?_
            refine pu2 23 (some 48) (bz 30 16777215) ?_
            refine pu2 24 (some 49) (bz 30 33554431) ?_
            refine pu2 25 (some 50) (bz 30 67108863) ?_
            refine tk2 26 (some 51) (bz 30 134217727) ?_
            refine one_ (i := 27) (N := some 52) (bz 30 268435455) rfl rfl (one_of HT_.out (by kernel_rfl)) (by decide) (fun K hK => ?_)
            refine goes_ Try.func59 (by kernel_rfl) rfl #[.int .i64 ((rd_T58 l1 x5_1).f3)] (by rfl) rfl rfl (by (try simp only [List.map_toArray, List.map_cons, List.map_nil]); first | done | rfl | (simp only [List.length_drop, List.length_take]; rfl)) ?_
            with_reducible refine (beaconref16_number.calls kj4 ((rd_T58 l1 x5_1).f3) t553 _ A35.out).mono ?_
            rintro e w' ⟨rfl, ⟨nd, rfl⟩⟩
            refine ⟨_, rfl, ?_⟩
            refine hK.out _ _ ⟨(blk_cell BK547.out 0).trans rfl, (blk_cell BK547.out 1).trans rfl, (blk_cell BK547.out 2).trans rfl, (blk_cell BK547.out 3).trans rfl, (blk_cell BK547.out 4).trans rfl, (blk_cell BK547.out 5).trans rfl⟩ (fun hHeld => ?_)
            clear hK K
            refine norm_ (a' := ?_) ?_ ?_; rotate_left; show Act.put _ (some 52) _ = _; simp only [Act.put, qa, qb, qc, i64_w, i32_w]; rfl
            refine pu2 28 (some 53) (bz 30 536870911) ?_
            refine pu2 29 (some 54) (bz 30 1073741823) ?_
            refine done_ (done_of HT_.out (by kernel_rfl)) ?_
            try go_wp2
            go_meet
            case rel => exact ⟨_, (!t553), fz, H', ⟨by have := HK1.out; have := HJ4.out; exact fl⟩, ⟨kp BK547.out⟩, ⟨fb1 GE547⟩⟩
          ·obtain rfl := bf_ c32
           rw [if_neg nf_] at H
           have H' := Aside0.mk H
           clear H
           try go_wp2
           have n0_ := Aside0.mk (blk_drew BK547.out)
           have n1_ := Aside0.mk (below_drew1 HB.out)
           clear BK547
           clear HB
           have BK547 := n0_
           have HB := n1_
           clear n0_ n1_
           refine start_ (n := 30) (S := fun w' => w'.cell? ⟨gb547, 0, none⟩ = some (.int .i64 ((rd_T58 l1 x5_1).f0)) ∧ w'.cell? ⟨gb547, 1, none⟩ = some (.int .i64 ((rd_T58 l1 x5_1).f1)) ∧ w'.cell? ⟨gb547, 2, none⟩ = some (.float .f64 ((rd_T58 l1 x5_1).f2)) ∧ w'.cell? ⟨gb547, 3, none⟩ = some (.int .i64 ((rd_T58 l1 x5_1).f3)) ∧ w'.cell? ⟨gb547, 4, none⟩ = some (.float .f64 ((rd_T58 l1 x5_1).f4)) ∧ w'.cell? ⟨gb547, 5, none⟩ = some (.int .i64 ((rd_T58 l1 x5_1).f5))) (ds := []) (bz 30 0) (by kernel_rfl) rfl rfl ⟨(blk_cell BK547.out 0).trans rfl, (blk_cell BK547.out 1).trans rfl, (blk_cell BK547.out 2).trans rfl, (blk_cell BK547.out 3).trans rfl, (blk_cell BK547.out 4).trans rfl, (blk_cell BK547.out 5).trans rfl⟩ (fun hHeld => ?_); refine with_tabW beaconref16_MayBalls.tab7 beaconref16_MayBalls.bits7 (fun HT_ HW_ => ?_)
           generalize wc.drew = w37 at BK547 HB hHeld ⊢
           refine pu2 0 (some 25) (bz 30 1) ?_
           refine pu2 1 (some 26) (bz 30 3) ?_
           refine pu2 2 (some 27) (bz 30 7) ?_
           refine pz2 3 (some 28) (bz 30 15) ?_
           refine pz2 4 (some 29) (bz 30 31) ?_
           refine pz2 5 (some 30) (bz 30 63) ?_
           refine pz2 6 (some 31) (bz 30 127) ?_
           refine pz2 7 (some 32) (bz 30 255) ?_
           refine pz2 8 (some 33) (bz 30 511) ?_
           refine pz2 9 (some 34) (bz 30 1023) ?_
           refine pz2 10 (some 35) (bz 30 2047) ?_
           refine pu2 11 (some 36) (bz 30 4095) ?_
           refine pu2 12 (some 37) (bz 30 8191) ?_
           refine pu2 13 (some 38) (bz 30 16383) ?_
           refine tk2 14 (some 39) (bz 30 32767) ?_
           refine one_ (i := 15) (N := some 40) (bz 30 65535) rfl rfl (one_of HT_.out (by kernel_rfl)) (by decide) (fun K hK => ?_)
           refine goes_ Try.func59 (by kernel_rfl) rfl #[.int .i64 ((rd_T58 l1 x5_1).f0)] (by rfl) rfl rfl (by (try simp only [List.map_toArray, List.map_cons, List.map_nil]); first | done | rfl | (simp only [List.length_drop, List.length_take]; rfl)) ?_
           with_reducible refine (beaconref16_number.calls kj4 ((rd_T58 l1 x5_1).f0) false _ A31.out).mono ?_
           rintro e w' ⟨rfl, ⟨nd, rfl⟩⟩
           refine ⟨_, rfl, ?_⟩
           refine hK.out _ _ ⟨(blk_cell BK547.out 0).trans rfl, (blk_cell BK547.out 1).trans rfl, (blk_cell BK547.out 2).trans rfl, (blk_cell BK547.out 3).trans rfl, (blk_cell BK547.out 4).trans rfl, (blk_cell BK547.out 5).trans rfl⟩ (fun hHeld => ?_)
           clear hK K
           refine norm_ (a' := ?_) ?_ ?_; rotate_left; show Act.put _ (some 40) _ = _; simp only [Act.put, qa, qb, qc, i64_w, i32_w]; rfl
           refine pu2 16 (some 41) (bz 30 131071) ?_
           refine pu2 17 (some 42) (bz 30 262143) ?_
           refine pu2 18 (some 43) (bz 30 524287) ?_
           refine pz2 19 (some 44) (bz 30 1048575) ?_
           refine pz2 20 (some 45) (bz 30 2097151) ?_
           refine pz2 21 (some 46) (bz 30 4194303) ?_
           refine pz2 22 (some 47) (bz 30 8388607) ?_
           refine pu2 23 (some 48) (bz 30 16777215) ?_
           refine pu2 24 (some 49) (bz 30 33554431) ?_
           refine pz2 25 (some 50) (bz 30 67108863) ?_
           refine pz2 26 (some 51) (bz 30 134217727) ?_
           refine pz2 27 (some 52) (bz 30 268435455) ?_
           refine pz2 28 (some 53) (bz 30 536870911) ?_
           refine pu2 29 (some 54) (bz 30 1073741823) ?_
           refine done_ (done_of HT_.out (by kernel_rfl)) ?_
           try go_wp2
           go_meet
           case rel => exact ⟨_, (true), fz, H', ⟨by have := HK1.out; have := HJ4.out; exact fl⟩, ⟨kp BK547.out⟩, ⟨fb1 GE547⟩⟩
        case rest =>
         clear HC12
         (try clear c3)
         obtain ⟨kq, x54_11, rfl, HA, HJ11, BK547, HB⟩ := hcut
         cases kq with
         | zero => exact absurd HA.out (by simp [beaconref16_MayBalls.j2])
         | succ kj11 =>
          have H := HA.out
          clear HA
          simp only [beaconref16_MayBalls.j2] at H
          by_cases c38 : x54_11 = true
          ·subst c38
           rw [if_pos rfl] at H
           obtain rfl := oj_ H
           go_wp2
           go_ret
           exact ⟨fe, fb1 GE547⟩
          ·obtain rfl := bf_ c38
           rw [if_neg nf_] at H
           have HC39 := Aside0.mk H
           clear H
           go_upto_region 9 with (fail)
           go_cut [81] (fun v81 wc => ∃ (kq : Nat) (x81_38 : Bool), v81 = .bool x81_38 ∧ Aside0 (beaconref16_MayBalls.j3 kq a0 l1 x5_1 x81_38 ((rd_T58 l1 x5_1).f0) ((rd_T58 l1 x5_1).f1) ((rd_T58 l1 x5_1).f2) ((rd_T58 l1 x5_1).f3) ((rd_T58 l1 x5_1).f4) ((rd_T58 l1 x5_1).f5) = some r) ∧ Aside0 (kq ≤ kj11) ∧ Aside0 (wc.heap[gb547]? = some (.cells #[.int .i64 ((rd_T58 l1 x5_1).f0), .int .i64 ((rd_T58 l1 x5_1).f1), .float .f64 ((rd_T58 l1 x5_1).f2), .int .i64 ((rd_T58 l1 x5_1).f3), .float .f64 ((rd_T58 l1 x5_1).f4), .int .i64 ((rd_T58 l1 x5_1).f5)] 58 (0, 0))) ∧ Aside0 (Below w.heap.size w wc))
           case first =>
            have H := HC39.out
            clear HC39
            replace H := bs_ H; obtain ⟨t554, A40, H⟩ := H
            by_cases c41 : t554 = true
            ·subst c41
             rw [if_pos rfl] at H
             replace H := bs_ H; obtain ⟨t555, A42, H⟩ := H
             by_cases c43 : t555 = true
             ·subst c43
              rw [if_pos rfl] at H
              have H' := Aside0.mk H
              clear H
              obtain ⟨hcz44_0, hcz44_1, hcz44_2, hcz44_3, hcz44_4, hcz44_5, hfz44_0, hfz44_1, hfz44_2, hfz44_3, hfz44_4, hfz44_5⟩ := cz6 BK547.out
              go_wp2_with (first | ((with_reducible refine gate_callee (f := 61) rfl ?_); refine gl_ (some 57) Try.func61 #[.float .f64 ((rd_T58 l1 x5_1).f2)] ?_; (with_reducible refine (beaconref06_Far.calls kj11 ((rd_T58 l1 x5_1).f2) true _ A40.out).mono ?_); rintro e w' ⟨rfl, ⟨nd, rfl⟩⟩; refine ⟨_, rfl, ?_⟩) | (go_at_call 60; (with_reducible refine (beaconref16_far.calls ((rd_T58 l1 x5_1).f2) true _ A42.out).mono ?_); rintro e w' ⟨rfl, ⟨nd, rfl⟩⟩))
              go_meet
              case rel => exact ⟨_, (true), fz, H', ⟨by have := HK1.out; have := HJ4.out; have := HJ11.out; exact fl⟩, ⟨kp BK547.out⟩, ⟨fb1 GE547⟩⟩
             ·obtain rfl := bf_ c43
              rw [if_neg nf_] at H
              by_cases c45 : (fEq ((rd_T58 l1 x5_1).f2) 0) = true
              ·rw [if_pos c45] at H
               have c45b0 : (fEq ((rd_T58 l1 x5_1).f2) 0) = true := c45
               clear c45
               (first | rw [c45b0] | (simp only [i64_w, i32_w]; rw [c45b0]) | skip)
               have H' := Aside0.mk H
               clear H
               obtain ⟨hcz46_0, hcz46_1, hcz46_2, hcz46_3, hcz46_4, hcz46_5, hfz46_0, hfz46_1, hfz46_2, hfz46_3, hfz46_4, hfz46_5⟩ := cz6 BK547.out
               go_wp2_with (first | ((with_reducible refine gate_callee (f := 61) rfl ?_); refine gl_ (some 57) Try.func61 #[.float .f64 ((rd_T58 l1 x5_1).f2)] ?_; (with_reducible refine (beaconref06_Far.calls kj11 ((rd_T58 l1 x5_1).f2) true _ A40.out).mono ?_); rintro e w' ⟨rfl, ⟨nd, rfl⟩⟩; refine ⟨_, rfl, ?_⟩) | (go_at_call 60; (with_reducible refine (beaconref16_far.calls ((rd_T58 l1 x5_1).f2) false _ A42.out).mono ?_); rintro e w' ⟨rfl, ⟨nd, rfl⟩⟩))
               go_meet
               case rel => exact ⟨_, (true), fz, H', ⟨by have := HK1.out; have := HJ4.out; have := HJ11.out; exact fl⟩, ⟨kp BK547.out⟩, ⟨fb1 GE547⟩⟩
              ·rw [if_neg c45] at H
               have c45b0 := bf_ c45
               clear c45
               (first | rw [c45b0] | (simp only [i64_w, i32_w]; rw [c45b0]) | skip)
               replace H := bs_ H; obtain ⟨t556, A47, H⟩ := H
               by_cases c48 : t556 = true
               ·subst c48
                rw [if_pos rfl] at H
                have H' := Aside0.mk H
                clear H
                obtain ⟨hcz49_0, hcz49_1, hcz49_2, hcz49_3, hcz49_4, hcz49_5, hfz49_0, hfz49_1, hfz49_2, hfz49_3, hfz49_4, hfz49_5⟩ := cz6 BK547.out
                go_wp2_with (first | ((with_reducible refine gate_callee (f := 61) rfl ?_); refine gl_ (some 57) Try.func61 #[.float .f64 ((rd_T58 l1 x5_1).f2)] ?_; (with_reducible refine (beaconref06_Far.calls kj11 ((rd_T58 l1 x5_1).f2) true _ A40.out).mono ?_); rintro e w' ⟨rfl, ⟨nd, rfl⟩⟩; refine ⟨_, rfl, ?_⟩) | (go_at_call 60; (with_reducible refine (beaconref16_far.calls ((rd_T58 l1 x5_1).f2) false _ A42.out).mono ?_); rintro e w' ⟨rfl, ⟨nd, rfl⟩⟩) | (go_at_call 61; (with_reducible refine (beaconref06_Far.calls kj11 ((rd_T58 l1 x5_1).f4) true _ A47.out).mono ?_); rintro e w' ⟨rfl, ⟨nd, rfl⟩⟩))
                go_meet
                case rel => exact ⟨_, ((fLt ((rd_T58 l1 x5_1).f4) ((rd_T58 l1 x5_1).f2))), fz, H', ⟨by have := HK1.out; have := HJ4.out; have := HJ11.out; exact fl⟩, ⟨kp BK547.out⟩, ⟨fb1 GE547⟩⟩
               ·obtain rfl := bf_ c48
                rw [if_neg nf_] at H
                have H' := Aside0.mk H
                clear H
                obtain ⟨hcz50_0, hcz50_1, hcz50_2, hcz50_3, hcz50_4, hcz50_5, hfz50_0, hfz50_1, hfz50_2, hfz50_3, hfz50_4, hfz50_5⟩ := cz6 BK547.out
                go_wp2_with (first | ((with_reducible refine gate_callee (f := 61) rfl ?_); refine gl_ (some 57) Try.func61 #[.float .f64 ((rd_T58 l1 x5_1).f2)] ?_; (with_reducible refine (beaconref06_Far.calls kj11 ((rd_T58 l1 x5_1).f2) true _ A40.out).mono ?_); rintro e w' ⟨rfl, ⟨nd, rfl⟩⟩; refine ⟨_, rfl, ?_⟩) | (go_at_call 60; (with_reducible refine (beaconref16_far.calls ((rd_T58 l1 x5_1).f2) false _ A42.out).mono ?_); rintro e w' ⟨rfl, ⟨nd, rfl⟩⟩) | (go_at_call 61; (with_reducible refine (beaconref06_Far.calls kj11 ((rd_T58 l1 x5_1).f4) false _ A47.out).mono ?_); rintro e w' ⟨rfl, ⟨nd, rfl⟩⟩))
                go_meet
                case rel => exact ⟨_, (true), fz, H', ⟨by have := HK1.out; have := HJ4.out; have := HJ11.out; exact fl⟩, ⟨kp BK547.out⟩, ⟨fb1 GE547⟩⟩
            ·obtain rfl := bf_ c41
             rw [if_neg nf_] at H
             have H' := Aside0.mk H
             clear H
             obtain ⟨hcz51_0, hcz51_1, hcz51_2, hcz51_3, hcz51_4, hcz51_5, hfz51_0, hfz51_1, hfz51_2, hfz51_3, hfz51_4, hfz51_5⟩ := cz6 BK547.out
             go_wp2_with (first | ((with_reducible refine gate_callee (f := 61) rfl ?_); refine gl_ (some 57) Try.func61 #[.float .f64 ((rd_T58 l1 x5_1).f2)] ?_; (with_reducible refine (beaconref06_Far.calls kj11 ((rd_T58 l1 x5_1).f2) false _ A40.out).mono ?_); rintro e w' ⟨rfl, ⟨nd, rfl⟩⟩; refine ⟨_, rfl, ?_⟩))
             go_meet
             case rel => exact ⟨_, (true), fz, H', ⟨by have := HK1.out; have := HJ4.out; have := HJ11.out; exact fl⟩, ⟨kp BK547.out⟩, ⟨fb1 GE547⟩⟩
           case rest =>
            clear HC39
            (try clear c3); (try clear c4); (try clear c38)
            obtain ⟨kq, x81_38, rfl, HA, HJ38, BK547, HB⟩ := hcut
            cases kq with
            | zero => exact absurd HA.out (by simp [beaconref16_MayBalls.j3])
            | succ kj38 =>
             have H := HA.out
             clear HA
             simp only [beaconref16_MayBalls.j3] at H
             by_cases c52 : x81_38 = true
             ·subst c52
              rw [if_pos rfl] at H
              obtain rfl := oj_ H
              go_wp2
              go_ret
              exact ⟨fe, fb1 GE547⟩
             ·obtain rfl := bf_ c52
              rw [if_neg nf_] at H
              have HC53 := Aside0.mk H
              clear H
              go_upto_region 11 with (fail)
              go_cut [96] (fun v96 wc => ∃ (kq : Nat) (x96_52 : Bool), v96 = .bool x96_52 ∧ Aside0 (beaconref16_MayBalls.j4 kq a0 l1 x5_1 x96_52 ((rd_T58 l1 x5_1).f0) ((rd_T58 l1 x5_1).f1) ((rd_T58 l1 x5_1).f2) ((rd_T58 l1 x5_1).f3) ((rd_T58 l1 x5_1).f4) ((rd_T58 l1 x5_1).f5) = some r) ∧ Aside0 (kq ≤ kj38) ∧ Aside0 (wc.heap[gb547]? = some (.cells #[.int .i64 ((rd_T58 l1 x5_1).f0), .int .i64 ((rd_T58 l1 x5_1).f1), .float .f64 ((rd_T58 l1 x5_1).f2), .int .i64 ((rd_T58 l1 x5_1).f3), .float .f64 ((rd_T58 l1 x5_1).f4), .int .i64 ((rd_T58 l1 x5_1).f5)] 58 (0, 0))) ∧ Aside0 (Below w.heap.size w wc))
              case first =>
               have H := HC53.out
               clear HC53
               replace H := bs_ H; obtain ⟨t557, A54, H⟩ := H
               by_cases c55 : t557 = true
               ·subst c55
                rw [if_pos rfl] at H
                have H' := Aside0.mk H
                clear H
                obtain ⟨hcz56_0, hcz56_1, hcz56_2, hcz56_3, hcz56_4, hcz56_5, hfz56_0, hfz56_1, hfz56_2, hfz56_3, hfz56_4, hfz56_5⟩ := cz6 BK547.out
                go_wp2_with (first | ((with_reducible refine gate_callee (f := 59) rfl ?_); refine gl_ (some 84) Try.func59 #[.int .i64 ((rd_T58 l1 x5_1).f5)] ?_; (with_reducible refine (beaconref16_number.calls kj38 ((rd_T58 l1 x5_1).f5) true _ A54.out).mono ?_); rintro e w' ⟨rfl, ⟨nd, rfl⟩⟩; refine ⟨_, rfl, ?_⟩))
                go_meet
                case rel => exact ⟨_, (false), fz, H', ⟨by have := HK1.out; have := HJ4.out; have := HJ11.out; have := HJ38.out; exact fl⟩, ⟨kp BK547.out⟩, ⟨fb1 GE547⟩⟩
               ·obtain rfl := bf_ c55
                rw [if_neg nf_] at H
                by_cases c57 : ((rd_T58 l1 x5_1).f5) = 0
                ·rw [if_pos c57] at H
                 have c57b0 := be_ c57
                 have c57b1 := bg_ c57
                 clear c57
                 (first | rw [c57b0] | (simp only [i64_w, i32_w]; rw [c57b0]) | skip)
                 replace H := bs_ H; obtain ⟨t558, A58, H⟩ := H
                 have H' := Aside0.mk H
                 clear H
                 obtain ⟨hcz59_0, hcz59_1, hcz59_2, hcz59_3, hcz59_4, hcz59_5, hfz59_0, hfz59_1, hfz59_2, hfz59_3, hfz59_4, hfz59_5⟩ := cz6 BK547.out
                 go_wp2_with (first | ((with_reducible refine gate_callee (f := 59) rfl ?_); refine gl_ (some 84) Try.func59 #[.int .i64 ((rd_T58 l1 x5_1).f5)] ?_; (with_reducible refine (beaconref16_number.calls kj38 ((rd_T58 l1 x5_1).f5) false _ A54.out).mono ?_); rintro e w' ⟨rfl, ⟨nd, rfl⟩⟩; refine ⟨_, rfl, ?_⟩) | (go_at_call 60; (with_reducible refine (beaconref16_far.calls ((rd_T58 l1 x5_1).f4) t558 _ A58.out).mono ?_); rintro e w' ⟨rfl, ⟨nd, rfl⟩⟩))
                 go_meet
                 case rel => exact ⟨_, (!t558), fz, H', ⟨by have := HK1.out; have := HJ4.out; have := HJ11.out; have := HJ38.out; exact fl⟩, ⟨kp BK547.out⟩, ⟨fb1 GE547⟩⟩
                ·rw [if_neg c57] at H
                 have c57b0 := bh_ c57
                 have c57b1 := bi_ c57
                 (first | rw [c57b0] | (simp only [i64_w, i32_w]; rw [c57b0]) | skip)
                 have H' := Aside0.mk H
                 clear H
                 obtain ⟨hcz60_0, hcz60_1, hcz60_2, hcz60_3, hcz60_4, hcz60_5, hfz60_0, hfz60_1, hfz60_2, hfz60_3, hfz60_4, hfz60_5⟩ := cz6 BK547.out
                 go_wp2_with (first | ((with_reducible refine gate_callee (f := 59) rfl ?_); refine gl_ (some 84) Try.func59 #[.int .i64 ((rd_T58 l1 x5_1).f5)] ?_; (with_reducible refine (beaconref16_number.calls kj38 ((rd_T58 l1 x5_1).f5) false _ A54.out).mono ?_); rintro e w' ⟨rfl, ⟨nd, rfl⟩⟩; refine ⟨_, rfl, ?_⟩))
                 go_meet
                 case rel => exact ⟨_, (!false), fz, H', ⟨by have := HK1.out; have := HJ4.out; have := HJ11.out; have := HJ38.out; exact fl⟩, ⟨kp BK547.out⟩, ⟨fb1 GE547⟩⟩
              case rest =>
               clear HC53
               (try clear c3); (try clear c4); (try clear c38); (try clear c52)
               obtain ⟨kq, x96_52, rfl, HA, HJ52, BK547, HB⟩ := hcut
               cases kq with
               | zero => exact absurd HA.out (by simp [beaconref16_MayBalls.j4])
               | succ kj52 =>
                have H := HA.out
                clear HA
                simp only [beaconref16_MayBalls.j4] at H
                by_cases c61 : x96_52 = true
                ·subst c61
                 rw [if_pos rfl] at H
                 obtain rfl := oj_ H
                 go_wp2
                 go_ret
                 exact ⟨fe, fb1 GE547⟩
                ·obtain rfl := bf_ c61
                 rw [if_neg nf_] at H
                 have HC62 := Aside0.mk H
                 clear H
                 go_upto_region 13 with (fail)
                 go_cut [104] (fun v104 wc => ∃ (kq : Nat) (x104_61 : Bool), v104 = .bool x104_61 ∧ Aside0 (beaconref16_MayBalls.j5 kq a0 l1 x5_1 x104_61 = some r) ∧ Aside0 (kq ≤ kj52) ∧ Aside0 (wc.heap[gb547]? = some (.cells #[.int .i64 ((rd_T58 l1 x5_1).f0), .int .i64 ((rd_T58 l1 x5_1).f1), .float .f64 ((rd_T58 l1 x5_1).f2), .int .i64 ((rd_T58 l1 x5_1).f3), .float .f64 ((rd_T58 l1 x5_1).f4), .int .i64 ((rd_T58 l1 x5_1).f5)] 58 (0, 0))) ∧ Aside0 (Below w.heap.size w wc))
                 case first =>
                  have H := HC62.out
                  clear HC62
                  by_cases c63 : ((rd_T58 l1 x5_1).f5) = 0
                  ·rw [if_pos c63] at H
                   have c63b0 := be_ c63
                   have c63b1 := bg_ c63
                   clear c63
                   (first | rw [c63b0] | (simp only [i64_w, i32_w]; rw [c63b0]) | skip)
                   have H' := Aside0.mk H
                   clear H
                   obtain ⟨hcz64_0, hcz64_1, hcz64_2, hcz64_3, hcz64_4, hcz64_5, hfz64_0, hfz64_1, hfz64_2, hfz64_3, hfz64_4, hfz64_5⟩ := cz6 BK547.out
                   go_wp2
                   go_meet
                   case rel => exact ⟨_, (false), fz, H', ⟨by have := HK1.out; have := HJ4.out; have := HJ11.out; have := HJ38.out; have := HJ52.out; exact fl⟩, ⟨kp BK547.out⟩, ⟨fb1 GE547⟩⟩
                  ·rw [if_neg c63] at H
                   have c63b0 := bh_ c63
                   have c63b1 := bi_ c63
                   (first | rw [c63b0] | (simp only [i64_w, i32_w]; rw [c63b0]) | skip)
                   replace H := bs_ H; obtain ⟨t559, A65, H⟩ := H
                   have H' := Aside0.mk H
                   clear H
                   obtain ⟨hcz66_0, hcz66_1, hcz66_2, hcz66_3, hcz66_4, hcz66_5, hfz66_0, hfz66_1, hfz66_2, hfz66_3, hfz66_4, hfz66_5⟩ := cz6 BK547.out
                   go_wp2_with (first | (go_at_call 60; (with_reducible refine (beaconref16_far.calls ((rd_T58 l1 x5_1).f4) t559 _ A65.out).mono ?_); rintro e w' ⟨rfl, ⟨nd, rfl⟩⟩))
                   go_meet
                   case rel => exact ⟨_, (t559), fz, H', ⟨by have := HK1.out; have := HJ4.out; have := HJ11.out; have := HJ38.out; have := HJ52.out; exact fl⟩, ⟨kp BK547.out⟩, ⟨fb1 GE547⟩⟩
                 case rest =>
                  clear HC62
                  (try clear c3); (try clear c4); (try clear c38); (try clear c52); (try clear c61)
                  obtain ⟨kq, x104_61, rfl, HA, HJ61, BK547, HB⟩ := hcut
                  cases kq with
                  | zero => exact absurd HA.out (by simp [beaconref16_MayBalls.j5])
                  | succ kj61 =>
                   have H := HA.out
                   clear HA
                   simp only [beaconref16_MayBalls.j5] at H
                   by_cases c67 : x104_61 = true
                   ·subst c67
                    rw [if_pos rfl] at H
                    obtain rfl := oj_ H
                    go_wp2
                    go_ret
                    exact ⟨fe, fb1 GE547⟩
                   ·obtain rfl := bf_ c67
                    rw [if_neg nf_] at H
                    have H' := Aside0.mk H
                    clear H
                    go_wp2
                    go_roundg kj61
                    case measure => have := HK1.out; have := HJ4.out; have := HJ11.out; have := HJ38.out; have := HJ52.out; have := HJ61.out; omega
                    case rel => exact ⟨(wrap64 (x5_1 + 1)), fz, H', ⟨by have := HK1.out; have := HJ4.out; have := HJ11.out; have := HJ38.out; have := HJ52.out; have := HJ61.out; omega⟩, ⟨fb1 GE547⟩⟩
    ·rw [if_neg c4] at H
     exact absurd H (by simp)
   ·rw [if_neg c3] at H
    have c3b0 := decide_eq_false c3
    clear c3
    obtain rfl := oj_ H
    go_wp2
    go_ret
    exact ⟨fe, fb⟩

end Go.Proofs.Ytjkhckbfkinheaa.GAa
