-- written by a program of this session (wip/pp): see NOTES.md
import Derived.Test.YtjkhckbfkinheaaGAax0
import Derived.Test.YtjkhckbfkinheaaGAax17
import Derived.Test.YtjkhckbfkinheaaGAax18
namespace Go.Proofs.Ytjkhckbfkinheaa.GAa
open Go.RowKit Go.Proofs.YtjkhckbfkinheaaW.PrintWords Go.Proofs.YtjkhckbfkinheaaW.PrintLast Go.Proofs.YtjkhckbfkinheaaW.PrintMore
attribute [local go_sem] max2_int min2_int max_two min_two max_three min_three max_four min_four   -- for this text's walks alone
attribute [local go_sem high] binOp_flss binOp_fgtr binOp_fleq binOp_fgeq binOp_feql binOp_fneq run_fadd run_fsub run_fmul run_fquo unary_fneg run_ftoint run_fofint run_feqIn ext_bits ext_frombits ext_trunc
set_option linter.unusedVariables false
set_option linter.unusedSimpArgs false

/-! ### beaconref15_may: function 65 -/
mutual
def beaconref15_may.l0 : Nat → Int → List (S58) → Int → Option (Int)
 | 0, _, _, _ => none
 | k + 1, x0, x1, x5 => if x5 < (x1.length : Int) then (if 0 ≤ x5 then (if ((rd_T58 x1 x5).f1) = 1 then ((beaconref06_May.f k ((rd_T58 x1 x5).f0) ((rd_T58 x1 x5).f1) ((rd_T58 x1 x5).f2) ((rd_T58 x1 x5).f4) ((rd_T58 x1 x5).f5)).bind fun t235 => (if t235 = true then (if ((rd_T58 x1 x5).f0) = x0 then (beaconref15_may.j1 k x0 x1 x5 true ((rd_T58 x1 x5).f0) ((rd_T58 x1 x5).f1) ((rd_T58 x1 x5).f2) ((rd_T58 x1 x5).f3) ((rd_T58 x1 x5).f4) ((rd_T58 x1 x5).f5)) else (if (fEq ((rd_T58 x1 x5).f2) 0) = true then (beaconref15_may.j1 k x0 x1 x5 true ((rd_T58 x1 x5).f0) ((rd_T58 x1 x5).f1) ((rd_T58 x1 x5).f2) ((rd_T58 x1 x5).f3) ((rd_T58 x1 x5).f4) ((rd_T58 x1 x5).f5)) else (if x5 > 0 then (if 0 ≤ (wrap64 (x5 - 1)) then (if (wrap64 (x5 - 1)) < (x1.length : Int) then (beaconref15_may.j1 k x0 x1 x5 (decide (((rd_T58 x1 (wrap64 (x5 - 1))).f0) ≥ ((rd_T58 x1 x5).f0))) ((rd_T58 x1 x5).f0) ((rd_T58 x1 x5).f1) ((rd_T58 x1 x5).f2) ((rd_T58 x1 x5).f3) ((rd_T58 x1 x5).f4) ((rd_T58 x1 x5).f5)) else (none)) else (none)) else (beaconref15_may.j1 k x0 x1 x5 false ((rd_T58 x1 x5).f0) ((rd_T58 x1 x5).f1) ((rd_T58 x1 x5).f2) ((rd_T58 x1 x5).f3) ((rd_T58 x1 x5).f4) ((rd_T58 x1 x5).f5))))) else (beaconref15_may.j1 k x0 x1 x5 true ((rd_T58 x1 x5).f0) ((rd_T58 x1 x5).f1) ((rd_T58 x1 x5).f2) ((rd_T58 x1 x5).f3) ((rd_T58 x1 x5).f4) ((rd_T58 x1 x5).f5)))) else (beaconref15_may.j1 k x0 x1 x5 true ((rd_T58 x1 x5).f0) ((rd_T58 x1 x5).f1) ((rd_T58 x1 x5).f2) ((rd_T58 x1 x5).f3) ((rd_T58 x1 x5).f4) ((rd_T58 x1 x5).f5))) else (none)) else (some 0)
def beaconref15_may.j1 : Nat → Int → List (S58) → Int → Bool → Int → Int → Nat → Int → Nat → Int → Option (Int)
 | 0, _, _, _, _, _, _, _, _, _, _ => none
 | k + 1, x0, x1, x5, x65, x234000, x234001, x234002, x234003, x234004, x234005 => if x65 = true then (some 1) else ((beaconref15_Far.f x234002).bind fun t237 => (if t237 = true then (if x234003 = 0 then ((beaconref15_Far.f x234002).bind fun t238 => (if t238 = true then (beaconref15_may.j2 k x0 x1 x5 false) else ((beaconref15_number.f k x234003).bind fun t239 => (beaconref15_may.j2 k x0 x1 x5 (!t239))))) else (beaconref15_may.j2 k x0 x1 x5 true)) else ((beaconref15_Far.f x234002).bind fun t240 => (if t240 = true then (beaconref15_may.j2 k x0 x1 x5 false) else ((beaconref15_number.f k x234003).bind fun t241 => (beaconref15_may.j2 k x0 x1 x5 (!t241)))))))
def beaconref15_may.j2 : Nat → Int → List (S58) → Int → Bool → Option (Int)
 | 0, _, _, _, _ => none
 | k + 1, x0, x1, x5, x85 => if x85 = true then (some 1) else (beaconref15_may.l0 k x0 x1 (wrap64 (x5 + 1)))
end
def beaconref15_may.f (k : Nat) (a0 : Int) (l1 : List (S58)) : Option (Int) := (beaconref15_number.f k a0).bind fun t231 => (if t231 = true then (beaconref15_may.l0 k a0 l1 0) else (some 20))
def beaconref15_may.T8 : Bool × List (List Nat × List Nat) := (true, [([], []), ([0], [0]), ([1], [1]), ([2], [2]), ([3], [3]), ([4, 3, 3], [3, 4]), ([5, 3], [3, 5]), ([3, 6], [3, 6]), ([7, 5], [7]), ([8], [8]), ([9, 8], [8, 9]), ([8], [8]), ([10, 11, 8], [8, 10, 11]), ([8, 12], [8, 12]), ([13, 8], [13]), ([14], [14]), ([15, 14], [14, 15]), ([16, 14], [14, 16]), ([14, 17], [14, 17]), ([18, 14], [18]), ([19], [19]), ([20, 19], [19, 20]), ([21, 19, 19], [19, 21]), ([22], [22]), ([22], [22]), ([24, 22], [22, 24]), ([23, 25, 22], [22, 23, 25]), ([26, 22], [22, 26]), ([27, 22], [22, 27]), ([22], [22]), ([29, 22], [22, 29]), ([28, 30, 22], [22, 28, 30]), ([22, 31, 19], [19, 22, 31]), ([19, 32], [19, 32])])
def beaconref15_may.B8 : List Nat := [0, 1, 3, 7, 15, 31, 63, 127, 255, 511, 1023, 511, 4095, 8191, 16383, 32767, 65535, 131071, 262143, 524287, 1048575, 2097151, 4194303, 8388607, 8388607, 25165823, 67108863, 134217727, 268435455, 8388607, 545259519, 2147483647, 4294967295, 8589934591]
theorem beaconref15_may.tab8 : rtab .any (opsOf Try.f65 8) = beaconref15_may.T8 := by kernel_rfl
theorem beaconref15_may.bits8 : waitsOk beaconref15_may.T8.2 beaconref15_may.B8 = true := by kernel_rfl
set_option maxHeartbeats 8000000 in
set_option maxRecDepth 100000 in
theorem beaconref15_may.calls (k : Nat) (a0 : Int) (A1 : Option Addr) (c1 : Nat) (l1 : List (S58)) (r : Int) (w : World) (hr1 : Kd.C k58 w A1 l1.length l1) (hc1 : l1.length ≤ c1) (h : beaconref15_may.f k a0 l1 = some r) :
  Calls Try.prog 65 #[.int .i64 a0, .slice A1 l1.length c1] w fun e w' => e = .returned (.int .i64 r) ∧ Below w.heap.size w w' := by
 have hu58 := Try.underlying58
 have hu56 := Try.underlying56
 have HR1 := Aside0.mk hr1
 have HC1 := Aside0.mk hc1
 clear hr1 hc1
 have HB := Aside0.mk (Below.refl w.heap.size w)
 have H : ((beaconref15_number.f k a0).bind fun t231 => (if t231 = true then (beaconref15_may.l0 k a0 l1 0) else (some 20))) = some r := h
 clear h
 replace H := bs_ H; obtain ⟨t231, A3, H⟩ := H
 by_cases c4 : t231 = true
 ·subst c4
  rw [if_pos rfl] at H
  have H' := Aside0.mk H
  clear H
  go_enter Try.func65, Try.ntmps65
  go_wp2_with (first | ((with_reducible refine gate_callee (f := 52) rfl ?_); refine gl_ (some 9) Try.func52 #[.int .i64 a0] ?_; (with_reducible refine (beaconref15_number.calls k a0 true _ A3.out).mono ?_); rintro e w' ⟨rfl, ⟨nd, rfl⟩⟩; refine ⟨_, rfl, ?_⟩))
  go_loopg [5] k (fun kq v5 w' => ∃ (x5_1 : Int), v5 = .int .i64 x5_1 ∧ Aside0 (beaconref15_may.l0 kq a0 l1 x5_1 = some r) ∧ Aside0 (kq ≤ k) ∧ Aside0 (Below w.heap.size w w'))
  case atStart => exact ⟨(0), fz, H', ⟨Nat.le_refl _⟩, ⟨fb⟩⟩
  case round =>
   clear H'
   (try clear c1); (try clear c4)
   obtain ⟨x5_1, rfl, HA, HK1, HB⟩ := hrel
   cases gk with
   | zero => exact absurd HA.out (by simp [beaconref15_may.l0])
   | succ k1 =>
    have H := HA.out
    clear HA
    simp only [beaconref15_may.l0] at H
    by_cases c5 : x5_1 < (l1.length : Int)
    ·rw [if_pos c5] at H
     have c5b0 := decide_eq_true c5
     clear c5
     by_cases c6 : 0 ≤ x5_1
     ·rw [if_pos c6] at H
      have c6b0 := decide_eq_true c6
      clear c6
      have HC7 := Aside0.mk H
      clear H
      have p232 : 0 ≤ (x5_1 : Int) := of_decide_eq_true (by first | (with_reducible assumption) | assumption)
      have q232 : x5_1 < (l1.length : Int) := of_decide_eq_true (by first | (with_reducible assumption) | assumption)
      obtain ⟨ad232, e232, hx232_0, hx232_1, hx232_2, hx232_3, hx232_4, hx232_5⟩ := at_T58 HR1.out x5_1 p232 q232
      cases e232
      replace hx232_0 := pw_cell_below HB.out hx232_0
      replace hx232_1 := pw_cell_below HB.out hx232_1
      replace hx232_2 := pw_cell_below HB.out hx232_2
      replace hx232_3 := pw_cell_below HB.out hx232_3
      replace hx232_4 := pw_cell_below HB.out hx232_4
      replace hx232_5 := pw_cell_below HB.out hx232_5
      replace p232 := eq_true p232
      replace q232 := eq_true q232
      go_upto_region 8 with (first | ((with_reducible refine gate_dst (N := 6) rfl ?_); refine bx_ (N := 6) #[.int .i64 0, .int .i64 0, .float .f64 0, .int .i64 0, .float .f64 0, .int .i64 0] 58 ⟨fb⟩ ?_; clear HB; intro gb233 w8 HB BK233 GE233; have GW233 := GE233; obtain ⟨hcz9_0, hcz9_1, hcz9_2, hcz9_3, hcz9_4, hcz9_5, hfz9_0, hfz9_1, hfz9_2, hfz9_3, hfz9_4, hfz9_5⟩ := cz6 BK233.out) | ((with_reducible refine gate_dst (N := 7) rfl ?_); refine bz_ (N := 7) #[.int .i64 0, .int .i64 0, .float .f64 0, .float .f64 0, .int .i64 0] 56 ?_; intro gb234 hg w10 hbox hb; have n0_ := Aside0.mk (blk_below (g := gb233) (o := .cells #[.int .i64 ((rd_T58 l1 x5_1).f0), .int .i64 ((rd_T58 l1 x5_1).f1), .float .f64 ((rd_T58 l1 x5_1).f2), .int .i64 ((rd_T58 l1 x5_1).f3), .float .f64 ((rd_T58 l1 x5_1).f4), .int .i64 ((rd_T58 l1 x5_1).f5)] 58 (0, 0)) (kp BK233.out) hb); have n1_ := Aside0.mk (below_step (fb1 GE233) hb); have n2_ := Aside0.mk (hbox); have n3_ := Aside0.mk ((by rw [hg]; exact (below_size (fb1 GE233)) : w.heap.size ≤ gb234)); have n4_ := Aside0.mk ((by rw [hg]; exact (below_size (fb1 GE233)) : w.heap.size ≤ gb234)); have n5_ := Aside0.mk ((by rw [hg]; exact Nat.ne_of_lt (blk_lt (g := gb233) (o := .cells #[.int .i64 ((rd_T58 l1 x5_1).f0), .int .i64 ((rd_T58 l1 x5_1).f1), .float .f64 ((rd_T58 l1 x5_1).f2), .int .i64 ((rd_T58 l1 x5_1).f3), .float .f64 ((rd_T58 l1 x5_1).f4), .int .i64 ((rd_T58 l1 x5_1).f5)] 58 (0, 0)) (kp BK233.out)) : gb233 ≠ gb234)); have n6_ := Aside0.mk ((by rw [hg]; exact Nat.ne_of_gt (blk_lt (g := gb233) (o := .cells #[.int .i64 ((rd_T58 l1 x5_1).f0), .int .i64 ((rd_T58 l1 x5_1).f1), .float .f64 ((rd_T58 l1 x5_1).f2), .int .i64 ((rd_T58 l1 x5_1).f3), .float .f64 ((rd_T58 l1 x5_1).f4), .int .i64 ((rd_T58 l1 x5_1).f5)] 58 (0, 0)) (kp BK233.out)) : gb234 ≠ gb233)); clear BK233; clear HB; have BK233 := n0_; have HB := n1_; have BK234 := n2_; have GW234 := n3_; have GE234 := n4_; have NB233_234 := n5_; have NB234_233 := n6_; clear n0_ n1_ n2_ n3_ n4_ n5_ n6_; clear hb hbox hg; have hnb11 := NB234_233.out; have hnc11 := NB233_234.out; obtain ⟨hcz12_0, hcz12_1, hcz12_2, hcz12_3, hcz12_4, hfz12_0, hfz12_1, hfz12_2, hfz12_3, hfz12_4⟩ := cz5 BK234.out))
      (try simp only [Act.put, qa, qb, qc])
      go_cut [65] (fun v65 wc => ∃ (kq : Nat) (x65_6 : Bool), v65 = .bool x65_6 ∧ Aside0 (beaconref15_may.j1 kq a0 l1 x5_1 x65_6 ((rd_T58 l1 x5_1).f0) ((rd_T58 l1 x5_1).f1) ((rd_T58 l1 x5_1).f2) ((rd_T58 l1 x5_1).f3) ((rd_T58 l1 x5_1).f4) ((rd_T58 l1 x5_1).f5) = some r) ∧ Aside0 (kq ≤ k1) ∧ Aside0 (wc.heap[gb233]? = some (.cells #[.int .i64 ((rd_T58 l1 x5_1).f0), .int .i64 ((rd_T58 l1 x5_1).f1), .float .f64 ((rd_T58 l1 x5_1).f2), .int .i64 ((rd_T58 l1 x5_1).f3), .float .f64 ((rd_T58 l1 x5_1).f4), .int .i64 ((rd_T58 l1 x5_1).f5)] 58 (0, 0))) ∧ Aside0 (wc.heap[gb234]? = some (.cells #[.int .i64 ((rd_T58 l1 x5_1).f0), .int .i64 ((rd_T58 l1 x5_1).f1), .float .f64 ((rd_T58 l1 x5_1).f2), .float .f64 ((rd_T58 l1 x5_1).f4), .int .i64 ((rd_T58 l1 x5_1).f5)] 56 (0, 0))) ∧ Aside0 (Below w.heap.size w wc))
      case first =>
       have H := HC7.out
       clear HC7
       by_cases c13 : ((rd_T58 l1 x5_1).f1) = 1
       ·rw [if_pos c13] at H
        have c13b0 := be_ c13
        have c13b1 := bg_ c13
        clear c13
        (first | rw [c13b0] | (simp only [i64_w, i32_w]; rw [c13b0]) | skip)
        replace H := bs_ H; obtain ⟨t235, A14, H⟩ := H
        by_cases c15 : t235 = true
        ·subst c15
         rw [if_pos rfl] at H
         by_cases c16 : ((rd_T58 l1 x5_1).f0) = a0
         ·rw [if_pos c16] at H
          have c16b0 := be_ c16
          have c16b1 := bg_ c16
          clear c16
          have H' := Aside0.mk H
          clear H
          try go_wp2
          have n0_ : Aside0 ((((((w10.setCell ⟨gb234, 0, none⟩ (.int .i64 ((rd_T58 l1 x5_1).f0))).setCell ⟨gb234, 1, none⟩ (.int .i64 ((rd_T58 l1 x5_1).f1))).setCell ⟨gb234, 2, none⟩ (.float .f64 ((rd_T58 l1 x5_1).f2))).setCell ⟨gb234, 3, none⟩ (.float .f64 ((rd_T58 l1 x5_1).f4))).setCell ⟨gb234, 4, none⟩ (.int .i64 ((rd_T58 l1 x5_1).f5))).heap[gb233]? = some (.cells #[.int .i64 ((rd_T58 l1 x5_1).f0), .int .i64 ((rd_T58 l1 x5_1).f1), .float .f64 ((rd_T58 l1 x5_1).f2), .int .i64 ((rd_T58 l1 x5_1).f3), .float .f64 ((rd_T58 l1 x5_1).f4), .int .i64 ((rd_T58 l1 x5_1).f5)] 58 (0, 0))) := ⟨kp1 NB233_234 BK233.out⟩
          have n1_ : Aside0 ((((((w10.setCell ⟨gb234, 0, none⟩ (.int .i64 ((rd_T58 l1 x5_1).f0))).setCell ⟨gb234, 1, none⟩ (.int .i64 ((rd_T58 l1 x5_1).f1))).setCell ⟨gb234, 2, none⟩ (.float .f64 ((rd_T58 l1 x5_1).f2))).setCell ⟨gb234, 3, none⟩ (.float .f64 ((rd_T58 l1 x5_1).f4))).setCell ⟨gb234, 4, none⟩ (.int .i64 ((rd_T58 l1 x5_1).f5))).heap[gb234]? = some (.cells #[.int .i64 ((rd_T58 l1 x5_1).f0), .int .i64 ((rd_T58 l1 x5_1).f1), .float .f64 ((rd_T58 l1 x5_1).f2), .float .f64 ((rd_T58 l1 x5_1).f4), .int .i64 ((rd_T58 l1 x5_1).f5)] 56 (0, 0))) := ⟨kp BK234.out⟩
          have n2_ : Aside0 (Below w.heap.size w (((((w10.setCell ⟨gb234, 0, none⟩ (.int .i64 ((rd_T58 l1 x5_1).f0))).setCell ⟨gb234, 1, none⟩ (.int .i64 ((rd_T58 l1 x5_1).f1))).setCell ⟨gb234, 2, none⟩ (.float .f64 ((rd_T58 l1 x5_1).f2))).setCell ⟨gb234, 3, none⟩ (.float .f64 ((rd_T58 l1 x5_1).f4))).setCell ⟨gb234, 4, none⟩ (.int .i64 ((rd_T58 l1 x5_1).f5)))) := ⟨fb2 GE233 GE234⟩
          (try clear BK233)
          (try clear BK234)
          (try clear HB)
          generalize (((((w10.setCell ⟨gb234, 0, none⟩ (.int .i64 ((rd_T58 l1 x5_1).f0))).setCell ⟨gb234, 1, none⟩ (.int .i64 ((rd_T58 l1 x5_1).f1))).setCell ⟨gb234, 2, none⟩ (.float .f64 ((rd_T58 l1 x5_1).f2))).setCell ⟨gb234, 3, none⟩ (.float .f64 ((rd_T58 l1 x5_1).f4))).setCell ⟨gb234, 4, none⟩ (.int .i64 ((rd_T58 l1 x5_1).f5))) = w17 at n0_ n1_ n2_ ⊢
          have BK233 := n0_
          have BK234 := n1_
          have HB := n2_
          clear n0_ n1_ n2_
          have n0_ := Aside0.mk (blk_drew BK233.out)
          have n1_ := Aside0.mk (blk_drew BK234.out)
          have n2_ := Aside0.mk (below_drew1 HB.out)
          clear BK233
          clear BK234
          clear HB
          have BK233 := n0_
          have BK234 := n1_
          have HB := n2_
          clear n0_ n1_ n2_
          refine start_ (n := 34) (S := fun w' => w'.cell? ⟨gb233, 0, none⟩ = some (.int .i64 ((rd_T58 l1 x5_1).f0)) ∧ w'.cell? ⟨gb233, 1, none⟩ = some (.int .i64 ((rd_T58 l1 x5_1).f1)) ∧ w'.cell? ⟨gb233, 2, none⟩ = some (.float .f64 ((rd_T58 l1 x5_1).f2)) ∧ w'.cell? ⟨gb233, 3, none⟩ = some (.int .i64 ((rd_T58 l1 x5_1).f3)) ∧ w'.cell? ⟨gb233, 4, none⟩ = some (.float .f64 ((rd_T58 l1 x5_1).f4)) ∧ w'.cell? ⟨gb233, 5, none⟩ = some (.int .i64 ((rd_T58 l1 x5_1).f5)) ∧ w'.cell? ⟨gb234, 0, none⟩ = some (.int .i64 ((rd_T58 l1 x5_1).f0)) ∧ w'.cell? ⟨gb234, 1, none⟩ = some (.int .i64 ((rd_T58 l1 x5_1).f1)) ∧ w'.cell? ⟨gb234, 2, none⟩ = some (.float .f64 ((rd_T58 l1 x5_1).f2)) ∧ w'.cell? ⟨gb234, 3, none⟩ = some (.float .f64 ((rd_T58 l1 x5_1).f4)) ∧ w'.cell? ⟨gb234, 4, none⟩ = some (.int .i64 ((rd_T58 l1 x5_1).f5))) (ds := []) (bz 34 0) (by kernel_rfl) rfl rfl ⟨(blk_cell BK233.out 0).trans rfl, (blk_cell BK233.out 1).trans rfl, (blk_cell BK233.out 2).trans rfl, (blk_cell BK233.out 3).trans rfl, (blk_cell BK233.out 4).trans rfl, (blk_cell BK233.out 5).trans rfl, (blk_cell BK234.out 0).trans rfl, (blk_cell BK234.out 1).trans rfl, (blk_cell BK234.out 2).trans rfl, (blk_cell BK234.out 3).trans rfl, (blk_cell BK234.out 4).trans rfl⟩ (fun hHeld => ?_); refine with_tabW beaconref15_may.tab8 beaconref15_may.bits8 (fun HT_ HW_ => ?_)
          generalize w17.drew = w18 at BK233 BK234 HB hHeld ⊢
          refine pu2 0 (some 32) (bz 34 1) ?_
          refine tk2 1 (some 33) (bz 34 3) ?_
          refine pu2 2 (some 34) (bz 34 7) ?_
          refine pu2 3 (some 35) (bz 34 15) ?_
          refine tk2 4 (some 36) (bz 34 31) ?_
          refine one_ (i := 5) (N := some 37) (bz 34 63) rfl rfl (one_of HT_.out (by kernel_rfl)) (by decide) (fun K hK => ?_)
          refine goes_ Try.func87 (by kernel_rfl) rfl #[.agg #[.int .i64 ((rd_T58 l1 x5_1).f0), .int .i64 ((rd_T58 l1 x5_1).f1), .float .f64 ((rd_T58 l1 x5_1).f2), .float .f64 ((rd_T58 l1 x5_1).f4), .int .i64 ((rd_T58 l1 x5_1).f5)]] (by rfl) rfl rfl (by (try simp only [List.map_toArray, List.map_cons, List.map_nil]); first | done | rfl | (simp only [List.length_drop, List.length_take]; rfl)) ?_
          with_reducible refine (beaconref06_May.calls k1 ((rd_T58 l1 x5_1).f0) ((rd_T58 l1 x5_1).f1) ((rd_T58 l1 x5_1).f2) ((rd_T58 l1 x5_1).f4) ((rd_T58 l1 x5_1).f5) true _ A14.out).mono ?_
          rintro e w19 ⟨rfl, hb⟩
          refine ⟨_, rfl, ?_⟩
          have n0_ := Aside0.mk (blk_below (g := gb233) (o := .cells #[.int .i64 ((rd_T58 l1 x5_1).f0), .int .i64 ((rd_T58 l1 x5_1).f1), .float .f64 ((rd_T58 l1 x5_1).f2), .int .i64 ((rd_T58 l1 x5_1).f3), .float .f64 ((rd_T58 l1 x5_1).f4), .int .i64 ((rd_T58 l1 x5_1).f5)] 58 (0, 0)) (kp BK233.out) hb)
          have n1_ := Aside0.mk (blk_below (g := gb234) (o := .cells #[.int .i64 ((rd_T58 l1 x5_1).f0), .int .i64 ((rd_T58 l1 x5_1).f1), .float .f64 ((rd_T58 l1 x5_1).f2), .float .f64 ((rd_T58 l1 x5_1).f4), .int .i64 ((rd_T58 l1 x5_1).f5)] 56 (0, 0)) (kp BK234.out) hb)
          have n2_ := Aside0.mk (below_step (fb2 GE233 GE234) hb)
          clear BK233
          clear BK234
          clear HB
          have BK233 := n0_
          have BK234 := n1_
          have HB := n2_
          clear n0_ n1_ n2_
          (try clear hb)
          refine hK.out _ _ ⟨(blk_cell BK233.out 0).trans rfl, (blk_cell BK233.out 1).trans rfl, (blk_cell BK233.out 2).trans rfl, (blk_cell BK233.out 3).trans rfl, (blk_cell BK233.out 4).trans rfl, (blk_cell BK233.out 5).trans rfl, (blk_cell BK234.out 0).trans rfl, (blk_cell BK234.out 1).trans rfl, (blk_cell BK234.out 2).trans rfl, (blk_cell BK234.out 3).trans rfl, (blk_cell BK234.out 4).trans rfl⟩ (fun hHeld => ?_)
          clear hK K
          refine norm_ (a' := ?_) ?_ ?_; rotate_left; show Act.put _ (some 37) _ = _; simp only [Act.put, qa, qb, qc, i64_w, i32_w]; rfl
          refine pu2 6 (some 38) (bz 34 127) ?_
          refine pu2 7 (some 39) (bz 34 255) ?_
          refine pu2 8 (some 40) (bz 34 511) ?_
          refine pu2 9 (some 41) (bz 34 1023) ?_
          refine pu2 11 (some 43) (bz 34 3071) ?_
          refine tk2 10 (some 42) (bz 34 4095) ?_
          refine pu2 12 (some 44) (bz 34 8191) ?_
          refine pu2 13 (some 45) (bz 34 16383) ?_
          refine pu2 14 (some 46) (bz 34 32767) ?_
          refine pz2 15 (some 47) (bz 34 65535) ?_
          refine pz2 16 (some 48) (bz 34 131071) ?_
          refine pz2 17 (some 49) (bz 34 262143) ?_
          refine pu2 18 (some 50) (bz 34 524287) ?_
          refine pu2 19 (some 51) (bz 34 1048575) ?_
          refine pz2 20 (some 52) (bz 34 2097151) ?_
          refine pz2 21 (some 53) (bz 34 4194303) ?_
          refine pz2 22 (some 54) (bz 34 8388607) ?_
          refine pz2 23 (some 55) (bz 34 16777215) ?_
          refine pz2 24 (some 56) (bz 34 33554431) ?_
          refine pz2 25 (some 57) (bz 34 67108863) ?_
          refine pz2 26 (some 58) (bz 34 134217727) ?_
          refine pz2 27 (some 59) (bz 34 268435455) ?_
          refine pz2 28 (some 60) (bz 34 536870911) ?_
          refine pz2 29 (some 61) (bz 34 1073741823) ?_
          refine pz2 30 (some 62) (bz 34 2147483647) ?_
          refine pz2 31 (some 63) (bz 34 4294967295) ?_
          refine pz2 32 (some 64) (bz 34 8589934591) ?_
          refine pu2 33 (some 65) (bz 34 17179869183) ?_
          refine done_ (done_of HT_.out (by kernel_rfl)) ?_
          try go_wp2
          go_meet
          case rel => exact ⟨_, (true), fz, H', ⟨by have := HK1.out; exact fl⟩, ⟨kp BK233.out⟩, ⟨kp BK234.out⟩, ⟨fb2 GE233 GE234⟩⟩
         ·rw [if_neg c16] at H
          have c16b0 := bh_ c16
          have c16b1 := bi_ c16
          by_cases c20 : (fEq ((rd_T58 l1 x5_1).f2) 0) = true
          ·rw [if_pos c20] at H
           have c20b0 : (fEq ((rd_T58 l1 x5_1).f2) 0) = true := c20
           clear c20
           have H' := Aside0.mk H
           clear H
           try go_wp2
           have n0_ : Aside0 ((((((w10.setCell ⟨gb234, 0, none⟩ (.int .i64 ((rd_T58 l1 x5_1).f0))).setCell ⟨gb234, 1, none⟩ (.int .i64 ((rd_T58 l1 x5_1).f1))).setCell ⟨gb234, 2, none⟩ (.float .f64 ((rd_T58 l1 x5_1).f2))).setCell ⟨gb234, 3, none⟩ (.float .f64 ((rd_T58 l1 x5_1).f4))).setCell ⟨gb234, 4, none⟩ (.int .i64 ((rd_T58 l1 x5_1).f5))).heap[gb233]? = some (.cells #[.int .i64 ((rd_T58 l1 x5_1).f0), .int .i64 ((rd_T58 l1 x5_1).f1), .float .f64 ((rd_T58 l1 x5_1).f2), .int .i64 ((rd_T58 l1 x5_1).f3), .float .f64 ((rd_T58 l1 x5_1).f4), .int .i64 ((rd_T58 l1 x5_1).f5)] 58 (0, 0))) := ⟨kp1 NB233_234 BK233.out⟩
           have n1_ : Aside0 ((((((w10.setCell ⟨gb234, 0, none⟩ (.int .i64 ((rd_T58 l1 x5_1).f0))).setCell ⟨gb234, 1, none⟩ (.int .i64 ((rd_T58 l1 x5_1).f1))).setCell ⟨gb234, 2, none⟩ (.float .f64 ((rd_T58 l1 x5_1).f2))).setCell ⟨gb234, 3, none⟩ (.float .f64 ((rd_T58 l1 x5_1).f4))).setCell ⟨gb234, 4, none⟩ (.int .i64 ((rd_T58 l1 x5_1).f5))).heap[gb234]? = some (.cells #[.int .i64 ((rd_T58 l1 x5_1).f0), .int .i64 ((rd_T58 l1 x5_1).f1), .float .f64 ((rd_T58 l1 x5_1).f2), .float .f64 ((rd_T58 l1 x5_1).f4), .int .i64 ((rd_T58 l1 x5_1).f5)] 56 (0, 0))) := ⟨kp BK234.out⟩
           have n2_ : Aside0 (Below w.heap.size w (((((w10.setCell ⟨gb234, 0, none⟩ (.int .i64 ((rd_T58 l1 x5_1).f0))).setCell ⟨gb234, 1, none⟩ (.int .i64 ((rd_T58 l1 x5_1).f1))).setCell ⟨gb234, 2, none⟩ (.float .f64 ((rd_T58 l1 x5_1).f2))).setCell ⟨gb234, 3, none⟩ (.float .f64 ((rd_T58 l1 x5_1).f4))).setCell ⟨gb234, 4, none⟩ (.int .i64 ((rd_T58 l1 x5_1).f5)))) := ⟨fb2 GE233 GE234⟩
           (try clear BK233)
           (try clear BK234)
           (try clear HB)
           generalize (((((w10.setCell ⟨gb234, 0, none⟩ (.int .i64 ((rd_T58 l1 x5_1).f0))).setCell ⟨gb234, 1, none⟩ (.int .i64 ((rd_T58 l1 x5_1).f1))).setCell ⟨gb234, 2, none⟩ (.float .f64 ((rd_T58 l1 x5_1).f2))).setCell ⟨gb234, 3, none⟩ (.float .f64 ((rd_T58 l1 x5_1).f4))).setCell ⟨gb234, 4, none⟩ (.int .i64 ((rd_T58 l1 x5_1).f5))) = w21 at n0_ n1_ n2_ ⊢
           have BK233 := n0_
           have BK234 := n1_
           have HB := n2_
           clear n0_ n1_ n2_
           have n0_ := Aside0.mk (blk_drew BK233.out)
           have n1_ := Aside0.mk (blk_drew BK234.out)
           have n2_ := Aside0.mk (below_drew1 HB.out)
           clear BK233
           clear BK234
           clear HB
           have BK233 := n0_
           have BK234 := n1_
           have HB := n2_
           clear n0_ n1_ n2_
           refine start_ (n := 34) (S := fun w' => w'.cell? ⟨gb233, 0, none⟩ = some (.int .i64 ((rd_T58 l1 x5_1).f0)) ∧ w'.cell? ⟨gb233, 1, none⟩ = some (.int .i64 ((rd_T58 l1 x5_1).f1)) ∧ w'.cell? ⟨gb233, 2, none⟩ = some (.float .f64 ((rd_T58 l1 x5_1).f2)) ∧ w'.cell? ⟨gb233, 3, none⟩ = some (.int .i64 ((rd_T58 l1 x5_1).f3)) ∧ w'.cell? ⟨gb233, 4, none⟩ = some (.float .f64 ((rd_T58 l1 x5_1).f4)) ∧ w'.cell? ⟨gb233, 5, none⟩ = some (.int .i64 ((rd_T58 l1 x5_1).f5)) ∧ w'.cell? ⟨gb234, 0, none⟩ = some (.int .i64 ((rd_T58 l1 x5_1).f0)) ∧ w'.cell? ⟨gb234, 1, none⟩ = some (.int .i64 ((rd_T58 l1 x5_1).f1)) ∧ w'.cell? ⟨gb234, 2, none⟩ = some (.float .f64 ((rd_T58 l1 x5_1).f2)) ∧ w'.cell? ⟨gb234, 3, none⟩ = some (.float .f64 ((rd_T58 l1 x5_1).f4)) ∧ w'.cell? ⟨gb234, 4, none⟩ = some (.int .i64 ((rd_T58 l1 x5_1).f5))) (ds := []) (bz 34 0) (by kernel_rfl) rfl rfl ⟨(blk_cell BK233.out 0).trans rfl, (blk_cell BK233.out 1).trans rfl, (blk_cell BK233.out 2).trans rfl, (blk_cell BK233.out 3).trans rfl, (blk_cell BK233.out 4).trans rfl, (blk_cell BK233.out 5).trans rfl, (blk_cell BK234.out 0).trans rfl, (blk_cell BK234.out 1).trans rfl, (blk_cell BK234.out 2).trans rfl, (blk_cell BK234.out 3).trans rfl, (blk_cell BK234.out 4).trans rfl⟩ (fun hHeld => ?_); refine with_tabW beaconref15_may.tab8 beaconref15_may.bits8 (fun HT_ HW_ => ?_)
           generalize w21.drew = w22 at BK233 BK234 HB hHeld ⊢
           refine pu2 0 (some 32) (bz 34 1) ?_
           refine tk2 1 (some 33) (bz 34 3) ?_
           refine pu2 2 (some 34) (bz 34 7) ?_
           refine pu2 3 (some 35) (bz 34 15) ?_
           refine tk2 4 (some 36) (bz 34 31) ?_
           refine one_ (i := 5) (N := some 37) (bz 34 63) rfl rfl (one_of HT_.out (by kernel_rfl)) (by decide) (fun K hK => ?_)
           refine goes_ Try.func87 (by kernel_rfl) rfl #[.agg #[.int .i64 ((rd_T58 l1 x5_1).f0), .int .i64 ((rd_T58 l1 x5_1).f1), .float .f64 ((rd_T58 l1 x5_1).f2), .float .f64 ((rd_T58 l1 x5_1).f4), .int .i64 ((rd_T58 l1 x5_1).f5)]] (by rfl) rfl rfl (by (try simp only [List.map_toArray, List.map_cons, List.map_nil]); first | done | rfl | (simp only [List.length_drop, List.length_take]; rfl)) ?_
           with_reducible refine (beaconref06_May.calls k1 ((rd_T58 l1 x5_1).f0) ((rd_T58 l1 x5_1).f1) ((rd_T58 l1 x5_1).f2) ((rd_T58 l1 x5_1).f4) ((rd_T58 l1 x5_1).f5) true _ A14.out).mono ?_
           rintro e w23 ⟨rfl, hb⟩
           refine ⟨_, rfl, ?_⟩
           have n0_ := Aside0.mk (blk_below (g := gb233) (o := .cells #[.int .i64 ((rd_T58 l1 x5_1).f0), .int .i64 ((rd_T58 l1 x5_1).f1), .float .f64 ((rd_T58 l1 x5_1).f2), .int .i64 ((rd_T58 l1 x5_1).f3), .float .f64 ((rd_T58 l1 x5_1).f4), .int .i64 ((rd_T58 l1 x5_1).f5)] 58 (0, 0)) (kp BK233.out) hb)
           have n1_ := Aside0.mk (blk_below (g := gb234) (o := .cells #[.int .i64 ((rd_T58 l1 x5_1).f0), .int .i64 ((rd_T58 l1 x5_1).f1), .float .f64 ((rd_T58 l1 x5_1).f2), .float .f64 ((rd_T58 l1 x5_1).f4), .int .i64 ((rd_T58 l1 x5_1).f5)] 56 (0, 0)) (kp BK234.out) hb)
           have n2_ := Aside0.mk (below_step (fb2 GE233 GE234) hb)
           clear BK233
           clear BK234
           clear HB
           have BK233 := n0_
           have BK234 := n1_
           have HB := n2_
           clear n0_ n1_ n2_
           (try clear hb)
           refine hK.out _ _ ⟨(blk_cell BK233.out 0).trans rfl, (blk_cell BK233.out 1).trans rfl, (blk_cell BK233.out 2).trans rfl, (blk_cell BK233.out 3).trans rfl, (blk_cell BK233.out 4).trans rfl, (blk_cell BK233.out 5).trans rfl, (blk_cell BK234.out 0).trans rfl, (blk_cell BK234.out 1).trans rfl, (blk_cell BK234.out 2).trans rfl, (blk_cell BK234.out 3).trans rfl, (blk_cell BK234.out 4).trans rfl⟩ (fun hHeld => ?_)
           clear hK K
           refine norm_ (a' := ?_) ?_ ?_; rotate_left; show Act.put _ (some 37) _ = _; simp only [Act.put, qa, qb, qc, i64_w, i32_w]; rfl
           refine pu2 6 (some 38) (bz 34 127) ?_
           refine pu2 7 (some 39) (bz 34 255) ?_
           refine pu2 8 (some 40) (bz 34 511) ?_
           refine pu2 9 (some 41) (bz 34 1023) ?_
           refine pu2 11 (some 43) (bz 34 3071) ?_
           refine tk2 10 (some 42) (bz 34 4095) ?_
           refine pu2 12 (some 44) (bz 34 8191) ?_
           refine pu2 13 (some 45) (bz 34 16383) ?_
           refine pu2 14 (some 46) (bz 34 32767) ?_
           refine pu2 15 (some 47) (bz 34 65535) ?_
           refine tk2 16 (some 48) (bz 34 131071) ?_
           refine pu2 17 (some 49) (bz 34 262143) ?_
           refine pu2 18 (some 50) (bz 34 524287) ?_
           refine pu2 19 (some 51) (bz 34 1048575) ?_
           refine pz2 20 (some 52) (bz 34 2097151) ?_
           refine pz2 21 (some 53) (bz 34 4194303) ?_
           refine pz2 22 (some 54) (bz 34 8388607) ?_
           refine pz2 23 (some 55) (bz 34 16777215) ?_
           refine pz2 24 (some 56) (bz 34 33554431) ?_
           refine pz2 25 (some 57) (bz 34 67108863) ?_
           refine pz2 26 (some 58) (bz 34 134217727) ?_
           refine pz2 27 (some 59) (bz 34 268435455) ?_
           refine pz2 28 (some 60) (bz 34 536870911) ?_
           refine pz2 29 (some 61) (bz 34 1073741823) ?_
           refine pz2 30 (some 62) (bz 34 2147483647) ?_
           refine pz2 31 (some 63) (bz 34 4294967295) ?_
           refine pz2 32 (some 64) (bz 34 8589934591) ?_
           refine pu2 33 (some 65) (bz 34 17179869183) ?_
           refine done_ (done_of HT_.out (by kernel_rfl)) ?_
           try go_wp2
           go_meet
           case rel => exact ⟨_, (true), fz, H', ⟨by have := HK1.out; exact fl⟩, ⟨kp BK233.out⟩, ⟨kp BK234.out⟩, ⟨fb2 GE233 GE234⟩⟩
          ·rw [if_neg c20] at H
           have c20b0 := bf_ c20
           clear c20
           by_cases c24 : x5_1 > 0
           ·rw [if_pos c24] at H
            have c24b0 := decide_eq_true c24
            clear c24
            obtain ⟨ji25, hji25⟩ : ∃ j_ : Int, (wrap64 (x5_1 - 1)) = j_ := ⟨_, rfl⟩
            replace H : (if 0 ≤ (ji25) then (if (ji25) < (l1.length : Int) then (beaconref15_may.j1 k1 a0 l1 x5_1 (decide (((rd_T58 l1 (ji25)).f0) ≥ ((rd_T58 l1 x5_1).f0))) ((rd_T58 l1 x5_1).f0) ((rd_T58 l1 x5_1).f1) ((rd_T58 l1 x5_1).f2) ((rd_T58 l1 x5_1).f3) ((rd_T58 l1 x5_1).f4) ((rd_T58 l1 x5_1).f5)) else (none)) else (none)) = some r := by first | (rw [hji25] at H; exact H) | (simp only [hji25] at H ⊢; exact H)
            (try rw [hji25] at A14)
            have hji25w : (IntKind.i64.wrap (x5_1 - 1)) = ji25 := (i64_w _).trans hji25
            by_cases c26 : 0 ≤ (ji25)
            ·rw [if_pos c26] at H
             have c26b0 := decide_eq_true c26
             clear c26
             by_cases c27 : (ji25) < (l1.length : Int)
             ·rw [if_pos c27] at H
              have c27b0 := decide_eq_true c27
              clear c27
              have H' := Aside0.mk H
              clear H
              try go_wp2
              have n0_ : Aside0 ((((((w10.setCell ⟨gb234, 0, none⟩ (.int .i64 ((rd_T58 l1 x5_1).f0))).setCell ⟨gb234, 1, none⟩ (.int .i64 ((rd_T58 l1 x5_1).f1))).setCell ⟨gb234, 2, none⟩ (.float .f64 ((rd_T58 l1 x5_1).f2))).setCell ⟨gb234, 3, none⟩ (.float .f64 ((rd_T58 l1 x5_1).f4))).setCell ⟨gb234, 4, none⟩ (.int .i64 ((rd_T58 l1 x5_1).f5))).heap[gb233]? = some (.cells #[.int .i64 ((rd_T58 l1 x5_1).f0), .int .i64 ((rd_T58 l1 x5_1).f1), .float .f64 ((rd_T58 l1 x5_1).f2), .int .i64 ((rd_T58 l1 x5_1).f3), .float .f64 ((rd_T58 l1 x5_1).f4), .int .i64 ((rd_T58 l1 x5_1).f5)] 58 (0, 0))) := ⟨kp1 NB233_234 BK233.out⟩
              have n1_ : Aside0 ((((((w10.setCell ⟨gb234, 0, none⟩ (.int .i64 ((rd_T58 l1 x5_1).f0))).setCell ⟨gb234, 1, none⟩ (.int .i64 ((rd_T58 l1 x5_1).f1))).setCell ⟨gb234, 2, none⟩ (.float .f64 ((rd_T58 l1 x5_1).f2))).setCell ⟨gb234, 3, none⟩ (.float .f64 ((rd_T58 l1 x5_1).f4))).setCell ⟨gb234, 4, none⟩ (.int .i64 ((rd_T58 l1 x5_1).f5))).heap[gb234]? = some (.cells #[.int .i64 ((rd_T58 l1 x5_1).f0), .int .i64 ((rd_T58 l1 x5_1).f1), .float .f64 ((rd_T58 l1 x5_1).f2), .float .f64 ((rd_T58 l1 x5_1).f4), .int .i64 ((rd_T58 l1 x5_1).f5)] 56 (0, 0))) := ⟨kp BK234.out⟩
              have n2_ : Aside0 (Below w.heap.size w (((((w10.setCell ⟨gb234, 0, none⟩ (.int .i64 ((rd_T58 l1 x5_1).f0))).setCell ⟨gb234, 1, none⟩ (.int .i64 ((rd_T58 l1 x5_1).f1))).setCell ⟨gb234, 2, none⟩ (.float .f64 ((rd_T58 l1 x5_1).f2))).setCell ⟨gb234, 3, none⟩ (.float .f64 ((rd_T58 l1 x5_1).f4))).setCell ⟨gb234, 4, none⟩ (.int .i64 ((rd_T58 l1 x5_1).f5)))) := ⟨fb2 GE233 GE234⟩
              (try clear BK233)
              (try clear BK234)
              (try clear HB)
              generalize (((((w10.setCell ⟨gb234, 0, none⟩ (.int .i64 ((rd_T58 l1 x5_1).f0))).setCell ⟨gb234, 1, none⟩ (.int .i64 ((rd_T58 l1 x5_1).f1))).setCell ⟨gb234, 2, none⟩ (.float .f64 ((rd_T58 l1 x5_1).f2))).setCell ⟨gb234, 3, none⟩ (.float .f64 ((rd_T58 l1 x5_1).f4))).setCell ⟨gb234, 4, none⟩ (.int .i64 ((rd_T58 l1 x5_1).f5))) = w28 at n0_ n1_ n2_ ⊢
              have BK233 := n0_
              have BK234 := n1_
              have HB := n2_
              clear n0_ n1_ n2_
              have n0_ := Aside0.mk (blk_drew BK233.out)
              have n1_ := Aside0.mk (blk_drew BK234.out)
              have n2_ := Aside0.mk (below_drew1 HB.out)
              clear BK233
              clear BK234
              clear HB
              have BK233 := n0_
              have BK234 := n1_
              have HB := n2_
              clear n0_ n1_ n2_
              have p236 : 0 ≤ ((ji25) : Int) := of_decide_eq_true (by first | (with_reducible assumption) | assumption)
              have q236 : (ji25) < (l1.length : Int) := of_decide_eq_true (by first | (with_reducible assumption) | assumption)
              obtain ⟨ad236, e236, hx236_0, hx236_1, hx236_2, hx236_3, hx236_4, hx236_5⟩ := at_T58 HR1.out (ji25) p236 q236
              have hw236_5 := hx236_5
              have hw236_4 := hx236_4
              have hw236_3 := hx236_3
              have hw236_2 := hx236_2
              have hw236_1 := hx236_1
              have hw236_0 := hx236_0
              obtain rfl : ad232 = ad236 := (by injection e236)
              replace hx236_0 := pw_cell_below HB.out hx236_0
              replace hx236_1 := pw_cell_below HB.out hx236_1
              replace hx236_2 := pw_cell_below HB.out hx236_2
              replace hx236_3 := pw_cell_below HB.out hx236_3
              replace hx236_4 := pw_cell_below HB.out hx236_4
              replace hx236_5 := pw_cell_below HB.out hx236_5
              replace p236 := eq_true p236
              replace q236 := eq_true q236
              refine start_ (n := 34) (S := fun w' => w'.cell? ⟨gb233, 0, none⟩ = some (.int .i64 ((rd_T58 l1 x5_1).f0)) ∧ w'.cell? ⟨gb233, 1, none⟩ = some (.int .i64 ((rd_T58 l1 x5_1).f1)) ∧ w'.cell? ⟨gb233, 2, none⟩ = some (.float .f64 ((rd_T58 l1 x5_1).f2)) ∧ w'.cell? ⟨gb233, 3, none⟩ = some (.int .i64 ((rd_T58 l1 x5_1).f3)) ∧ w'.cell? ⟨gb233, 4, none⟩ = some (.float .f64 ((rd_T58 l1 x5_1).f4)) ∧ w'.cell? ⟨gb233, 5, none⟩ = some (.int .i64 ((rd_T58 l1 x5_1).f5)) ∧ w'.cell? ⟨gb234, 0, none⟩ = some (.int .i64 ((rd_T58 l1 x5_1).f0)) ∧ w'.cell? ⟨gb234, 1, none⟩ = some (.int .i64 ((rd_T58 l1 x5_1).f1)) ∧ w'.cell? ⟨gb234, 2, none⟩ = some (.float .f64 ((rd_T58 l1 x5_1).f2)) ∧ w'.cell? ⟨gb234, 3, none⟩ = some (.float .f64 ((rd_T58 l1 x5_1).f4)) ∧ w'.cell? ⟨gb234, 4, none⟩ = some (.int .i64 ((rd_T58 l1 x5_1).f5)) ∧ w'.cell? (ad232.add (((ji25)).toNat * 6)) = some (.int .i64 ((rd_T58 l1 (ji25)).f0)) ∧ w'.cell? ⟨(ad232.add (((ji25)).toNat * 6)).block, (ad232.add (((ji25)).toNat * 6)).off + 1, none⟩ = some (.int .i64 ((rd_T58 l1 (ji25)).f1)) ∧ w'.cell? ⟨(ad232.add (((ji25)).toNat * 6)).block, (ad232.add (((ji25)).toNat * 6)).off + 2, none⟩ = some (.float .f64 ((rd_T58 l1 (ji25)).f2)) ∧ w'.cell? ⟨(ad232.add (((ji25)).toNat * 6)).block, (ad232.add (((ji25)).toNat * 6)).off + 3, none⟩ = some (.int .i64 ((rd_T58 l1 (ji25)).f3)) ∧ w'.cell? ⟨(ad232.add (((ji25)).toNat * 6)).block, (ad232.add (((ji25)).toNat * 6)).off + 4, none⟩ = some (.float .f64 ((rd_T58 l1 (ji25)).f4)) ∧ w'.cell? ⟨(ad232.add (((ji25)).toNat * 6)).block, (ad232.add (((ji25)).toNat * 6)).off + 5, none⟩ = some (.int .i64 ((rd_T58 l1 (ji25)).f5))) (ds := []) (bz 34 0) (by kernel_rfl) rfl rfl ⟨(blk_cell BK233.out 0).trans rfl, (blk_cell BK233.out 1).trans rfl, (blk_cell BK233.out 2).trans rfl, (blk_cell BK233.out 3).trans rfl, (blk_cell BK233.out 4).trans rfl, (blk_cell BK233.out 5).trans rfl, (blk_cell BK234.out 0).trans rfl, (blk_cell BK234.out 1).trans rfl, (blk_cell BK234.out 2).trans rfl, (blk_cell BK234.out 3).trans rfl, (blk_cell BK234.out 4).trans rfl, ((HB.out.cell (World.block_lt_of_cell? w _ hw236_0)).trans hw236_0), ((HB.out.cell (World.block_lt_of_cell? w _ hw236_1)).trans hw236_1), ((HB.out.cell (World.block_lt_of_cell? w _ hw236_2)).trans hw236_2), ((HB.out.cell (World.block_lt_of_cell? w _ hw236_3)).trans hw236_3), ((HB.out.cell (World.block_lt_of_cell? w _ hw236_4)).trans hw236_4), ((HB.out.cell (World.block_lt_of_cell? w _ hw236_5)).trans hw236_5)⟩ (fun hHeld => ?_); refine with_tabW beaconref15_may.tab8 beaconref15_may.bits8 (fun HT_ HW_ => ?_)
              generalize w28.drew = w29 at BK233 BK234 HB hx236_0 hx236_1 hx236_2 hx236_3 hx236_4 hx236_5 hHeld ⊢
              refine pu2 0 (some 32) (bz 34 1) ?_
              refine tk2 1 (some 33) (bz 34 3) ?_
              refine pu2 2 (some 34) (bz 34 7) ?_
              refine pu2 3 (some 35) (bz 34 15) ?_
              refine tk2 4 (some 36) (bz 34 31) ?_
              refine one_ (i := 5) (N := some 37) (bz 34 63) rfl rfl (one_of HT_.out (by kernel_rfl)) (by decide) (fun K hK => ?_)
              refine goes_ Try.func87 (by kernel_rfl) rfl #[.agg #[.int .i64 ((rd_T58 l1 x5_1).f0), .int .i64 ((rd_T58 l1 x5_1).f1), .float .f64 ((rd_T58 l1 x5_1).f2), .float .f64 ((rd_T58 l1 x5_1).f4), .int .i64 ((rd_T58 l1 x5_1).f5)]] (by rfl) rfl rfl (by (try simp only [List.map_toArray, List.map_cons, List.map_nil]); first | done | rfl | (simp only [List.length_drop, List.length_take]; rfl)) ?_
              with_reducible refine (beaconref06_May.calls k1 ((rd_T58 l1 x5_1).f0) ((rd_T58 l1 x5_1).f1) ((rd_T58 l1 x5_1).f2) ((rd_T58 l1 x5_1).f4) ((rd_T58 l1 x5_1).f5) true _ A14.out).mono ?_
              rintro e w30 ⟨rfl, hb⟩
              refine ⟨_, rfl, ?_⟩
              have n0_ := Aside0.mk (blk_below (g := gb233) (o := .cells #[.int .i64 ((rd_T58 l1 x5_1).f0), .int .i64 ((rd_T58 l1 x5_1).f1), .float .f64 ((rd_T58 l1 x5_1).f2), .int .i64 ((rd_T58 l1 x5_1).f3), .float .f64 ((rd_T58 l1 x5_1).f4), .int .i64 ((rd_T58 l1 x5_1).f5)] 58 (0, 0)) (kp BK233.out) hb)
              have n1_ := Aside0.mk (blk_below (g := gb234) (o := .cells #[.int .i64 ((rd_T58 l1 x5_1).f0), .int .i64 ((rd_T58 l1 x5_1).f1), .float .f64 ((rd_T58 l1 x5_1).f2), .float .f64 ((rd_T58 l1 x5_1).f4), .int .i64 ((rd_T58 l1 x5_1).f5)] 56 (0, 0)) (kp BK234.out) hb)
              have n2_ := Aside0.mk (below_step (fb2 GE233 GE234) hb)
              clear BK233
              clear BK234
              clear HB
              have BK233 := n0_
              have BK234 := n1_
              have HB := n2_
              clear n0_ n1_ n2_
              (try clear hb)
              refine hK.out _ _ ⟨(blk_cell BK233.out 0).trans rfl, (blk_cell BK233.out 1).trans rfl, (blk_cell BK233.out 2).trans rfl, (blk_cell BK233.out 3).trans rfl, (blk_cell BK233.out 4).trans rfl, (blk_cell BK233.out 5).trans rfl, (blk_cell BK234.out 0).trans rfl, (blk_cell BK234.out 1).trans rfl, (blk_cell BK234.out 2).trans rfl, (blk_cell BK234.out 3).trans rfl, (blk_cell BK234.out 4).trans rfl, ((HB.out.cell (World.block_lt_of_cell? w _ hw236_0)).trans hw236_0), ((HB.out.cell (World.block_lt_of_cell? w _ hw236_1)).trans hw236_1), ((HB.out.cell (World.block_lt_of_cell? w _ hw236_2)).trans hw236_2), ((HB.out.cell (World.block_lt_of_cell? w _ hw236_3)).trans hw236_3), ((HB.out.cell (World.block_lt_of_cell? w _ hw236_4)).trans hw236_4), ((HB.out.cell (World.block_lt_of_cell? w _ hw236_5)).trans hw236_5)⟩ (fun hHeld => ?_)
              clear hK K
              refine norm_ (a' := ?_) ?_ ?_; rotate_left; show Act.put _ (some 37) _ = _; simp only [Act.put, qa, qb, qc, i64_w, i32_w]; rfl
              refine pu2 6 (some 38) (bz 34 127) ?_
              refine pu2 7 (some 39) (bz 34 255) ?_
              refine pu2 8 (some 40) (bz 34 511) ?_
              refine pu2 9 (some 41) (bz 34 1023) ?_
              refine pu2 11 (some 43) (bz 34 3071) ?_
              refine tk2 10 (some 42) (bz 34 4095) ?_
              refine pu2 12 (some 44) (bz 34 8191) ?_
              refine pu2 13 (some 45) (bz 34 16383) ?_
              refine pu2 14 (some 46) (bz 34 32767) ?_
              refine pu2 15 (some 47) (bz 34 65535) ?_
              refine tk2 16 (some 48) (bz 34 131071) ?_
              refine pu2 17 (some 49) (bz 34 262143) ?_
              refine pu2 18 (some 50) (bz 34 524287) ?_
              refine pu2 19 (some 51) (bz 34 1048575) ?_
              refine pu2 20 (some 52) (bz 34 2097151) ?_
              refine pu2 21 (some 53) (bz 34 4194303) ?_
              refine pu2 22 (some 54) (bz 34 8388607) ?_
              refine pu2 23 (some 55) (bz 34 16777215) ?_
              refine pu2 24 (some 56) (bz 34 33554431) ?_
              refine pu2 25 (some 57) (bz 34 67108863) ?_
              refine pu2 26 (some 58) (bz 34 134217727) ?_
              refine pu2 27 (some 59) (bz 34 268435455) ?_
              refine pu2 29 (some 61) (bz 34 805306367) ?_
              refine tk2 28 (some 60) (bz 34 1073741823) ?_
              refine tk2 30 (some 62) (bz 34 2147483647) ?_
              refine pu2 31 (some 63) (bz 34 4294967295) ?_
              refine pu2 32 (some 64) (bz 34 8589934591) ?_
              refine pu2 33 (some 65) (bz 34 17179869183) ?_
              refine done_ (done_of HT_.out (by kernel_rfl)) ?_
              try go_wp2
              go_meet
              case rel => exact ⟨_, (decide (((rd_T58 l1 (ji25)).f0) ≥ ((rd_T58 l1 x5_1).f0))), (by first | rfl | (simp; done) | (simp only [← hji25] <;> (first | rfl | simp)) | (simp [*]; done)), H', ⟨by have := HK1.out; exact fl⟩, ⟨kp BK233.out⟩, ⟨kp BK234.out⟩, ⟨fb2 GE233 GE234⟩⟩
             ·rw [if_neg c27] at H
              exact absurd H (by simp)
            ·rw [if_neg c26] at H
             exact absurd H (by simp)
           ·rw [if_neg c24] at H
            have c24b0 := decide_eq_false c24
            clear c24
            have H' := Aside0.mk H
            clear H
            try go_wp2
            have n0_ : Aside0 ((((((w10.setCell ⟨gb234, 0, none⟩ (.int .i64 ((rd_T58 l1 x5_1).f0))).setCell ⟨gb234, 1, none⟩ (.int .i64 ((rd_T58 l1 x5_1).f1))).setCell ⟨gb234, 2, none⟩ (.float .f64 ((rd_T58 l1 x5_1).f2))).setCell ⟨gb234, 3, none⟩ (.float .f64 ((rd_T58 l1 x5_1).f4))).setCell ⟨gb234, 4, none⟩ (.int .i64 ((rd_T58 l1 x5_1).f5))).heap[gb233]? = some (.cells #[.int .i64 ((rd_T58 l1 x5_1).f0), .int .i64 ((rd_T58 l1 x5_1).f1), .float .f64 ((rd_T58 l1 x5_1).f2), .int .i64 ((rd_T58 l1 x5_1).f3), .float .f64 ((rd_T58 l1 x5_1).f4), .int .i64 ((rd_T58 l1 x5_1).f5)] 58 (0, 0))) := ⟨kp1 NB233_234 BK233.out⟩
            have n1_ : Aside0 ((((((w10.setCell ⟨gb234, 0, none⟩ (.int .i64 ((rd_T58 l1 x5_1).f0))).setCell ⟨gb234, 1, none⟩ (.int .i64 ((rd_T58 l1 x5_1).f1))).setCell ⟨gb234, 2, none⟩ (.float .f64 ((rd_T58 l1 x5_1).f2))).setCell ⟨gb234, 3, none⟩ (.float .f64 ((rd_T58 l1 x5_1).f4))).setCell ⟨gb234, 4, none⟩ (.int .i64 ((rd_T58 l1 x5_1).f5))).heap[gb234]? = some (.cells #[.int .i64 ((rd_T58 l1 x5_1).f0), .int .i64 ((rd_T58 l1 x5_1).f1), .float .f64 ((rd_T58 l1 x5_1).f2), .float .f64 ((rd_T58 l1 x5_1).f4), .int .i64 ((rd_T58 l1 x5_1).f5)] 56 (0, 0))) := ⟨kp BK234.out⟩
            have n2_ : Aside0 (Below w.heap.size w (((((w10.setCell ⟨gb234, 0, none⟩ (.int .i64 ((rd_T58 l1 x5_1).f0))).setCell ⟨gb234, 1, none⟩ (.int .i64 ((rd_T58 l1 x5_1).f1))).setCell ⟨gb234, 2, none⟩ (.float .f64 ((rd_T58 l1 x5_1).f2))).setCell ⟨gb234, 3, none⟩ (.float .f64 ((rd_T58 l1 x5_1).f4))).setCell ⟨gb234, 4, none⟩ (.int .i64 ((rd_T58 l1 x5_1).f5)))) := ⟨fb2 GE233 GE234⟩
            (try clear BK233)
            (try clear BK234)
            (try clear HB)
            generalize (((((w10.setCell ⟨gb234, 0, none⟩ (.int .i64 ((rd_T58 l1 x5_1).f0))).setCell ⟨gb234, 1, none⟩ (.int .i64 ((rd_T58 l1 x5_1).f1))).setCell ⟨gb234, 2, none⟩ (.float .f64 ((rd_T58 l1 x5_1).f2))).setCell ⟨gb234, 3, none⟩ (.float .f64 ((rd_T58 l1 x5_1).f4))).setCell ⟨gb234, 4, none⟩ (.int .i64 ((rd_T58 l1 x5_1).f5))) = w31 at n0_ n1_ n2_ ⊢
            have BK233 := n0_
            have BK234 := n1_
            have HB := n2_
            clear n0_ n1_ n2_
            have n0_ := Aside0.mk (blk_drew BK233.out)
            have n1_ := Aside0.mk (blk_drew BK234.out)
            have n2_ := Aside0.mk (below_drew1 HB.out)
            clear BK233
            clear BK234
            clear HB
            have BK233 := n0_
            have BK234 := n1_
            have HB := n2_
            clear n0_ n1_ n2_
            refine start_ (n := 34) (S := fun w' => w'.cell? ⟨gb233, 0, none⟩ = some (.int .i64 ((rd_T58 l1 x5_1).f0)) ∧ w'.cell? ⟨gb233, 1, none⟩ = some (.int .i64 ((rd_T58 l1 x5_1).f1)) ∧ w'.cell? ⟨gb233, 2, none⟩ = some (.float .f64 ((rd_T58 l1 x5_1).f2)) ∧ w'.cell? ⟨gb233, 3, none⟩ = some (.int .i64 ((rd_T58 l1 x5_1).f3)) ∧ w'.cell? ⟨gb233, 4, none⟩ = some (.float .f64 ((rd_T58 l1 x5_1).f4)) ∧ w'.cell? ⟨gb233, 5, none⟩ = some (.int .i64 ((rd_T58 l1 x5_1).f5)) ∧ w'.cell? ⟨gb234, 0, none⟩ = some (.int .i64 ((rd_T58 l1 x5_1).f0)) ∧ w'.cell? ⟨gb234, 1, none⟩ = some (.int .i64 ((rd_T58 l1 x5_1).f1)) ∧ w'.cell? ⟨gb234, 2, none⟩ = some (.float .f64 ((rd_T58 l1 x5_1).f2)) ∧ w'.cell? ⟨gb234, 3, none⟩ = some (.float .f64 ((rd_T58 l1 x5_1).f4)) ∧ w'.cell? ⟨gb234, 4, none⟩ = some (.int .i64 ((rd_T58 l1 x5_1).f5))) (ds := []) (bz 34 0) (by kernel_rfl) rfl rfl ⟨(blk_cell BK233.out 0).trans rfl, (blk_cell BK233.out 1).trans rfl, (blk_cell BK233.out 2).trans rfl, (blk_cell BK233.out 3).trans rfl, (blk_cell BK233.out 4).trans rfl, (blk_cell BK233.out 5).trans rfl, (blk_cell BK234.out 0).trans rfl, (blk_cell BK234.out 1).trans rfl, (blk_cell BK234.out 2).trans rfl, (blk_cell BK234.out 3).trans rfl, (blk_cell BK234.out 4).trans rfl⟩ (fun hHeld => ?_); refine with_tabW beaconref15_may.tab8 beaconref15_may.bits8 (fun HT_ HW_ => ?_)
            generalize w31.drew = w32 at BK233 BK234 HB hHeld ⊢
            refine pu2 0 (some 32) (bz 34 1) ?_
            refine tk2 1 (some 33) (bz 34 3) ?_
            refine pu2 2 (some 34) (bz 34 7) ?_
            refine pu2 3 (some 35) (bz 34 15) ?_
            refine tk2 4 (some 36) (bz 34 31) ?_
            refine one_ (i := 5) (N := some 37) (bz 34 63) rfl rfl (one_of HT_.out (by kernel_rfl)) (by decide) (fun K hK => ?_)
            refine goes_ Try.func87 (by kernel_rfl) rfl #[.agg #[.int .i64 ((rd_T58 l1 x5_1).f0), .int .i64 ((rd_T58 l1 x5_1).f1), .float .f64 ((rd_T58 l1 x5_1).f2), .float .f64 ((rd_T58 l1 x5_1).f4), .int .i64 ((rd_T58 l1 x5_1).f5)]] (by rfl) rfl rfl (by (try simp only [List.map_toArray, List.map_cons, List.map_nil]); first | done | rfl | (simp only [List.length_drop, List.length_take]; rfl)) ?_
            with_reducible refine (beaconref06_May.calls k1 ((rd_T58 l1 x5_1).f0) ((rd_T58 l1 x5_1).f1) ((rd_T58 l1 x5_1).f2) ((rd_T58 l1 x5_1).f4) ((rd_T58 l1 x5_1).f5) true _ A14.out).mono ?_
            rintro e w33 ⟨rfl, hb⟩
            refine ⟨_, rfl, ?_⟩
            have n0_ := Aside0.mk (blk_below (g := gb233) (o := .cells #[.int .i64 ((rd_T58 l1 x5_1).f0), .int .i64 ((rd_T58 l1 x5_1).f1), .float .f64 ((rd_T58 l1 x5_1).f2), .int .i64 ((rd_T58 l1 x5_1).f3), .float .f64 ((rd_T58 l1 x5_1).f4), .int .i64 ((rd_T58 l1 x5_1).f5)] 58 (0, 0)) (kp BK233.out) hb)
            have n1_ := Aside0.mk (blk_below (g := gb234) (o := .cells #[.int .i64 ((rd_T58 l1 x5_1).f0), .int .i64 ((rd_T58 l1 x5_1).f1), .float .f64 ((rd_T58 l1 x5_1).f2), .float .f64 ((rd_T58 l1 x5_1).f4), .int .i64 ((rd_T58 l1 x5_1).f5)] 56 (0, 0)) (kp BK234.out) hb)
            have n2_ := Aside0.mk (below_step (fb2 GE233 GE234) hb)
            clear BK233
            clear BK234
            clear HB
            have BK233 := n0_
            have BK234 := n1_
            have HB := n2_
            clear n0_ n1_ n2_
            (try clear hb)
            refine hK.out _ _ ⟨(blk_cell BK233.out 0).trans rfl, (blk_cell BK233.out 1).trans rfl, (blk_cell BK233.out 2).trans rfl, (blk_cell BK233.out 3).trans rfl, (blk_cell BK233.out 4).trans rfl, (blk_cell BK233.out 5).trans rfl, (blk_cell BK234.out 0).trans rfl, (blk_cell BK234.out 1).trans rfl, (blk_cell BK234.out 2).trans rfl, (blk_cell BK234.out 3).trans rfl, (blk_cell BK234.out 4).trans rfl⟩ (fun hHeld => ?_)
            clear hK K
            refine norm_ (a' := ?_) ?_ ?_; rotate_left; show Act.put _ (some 37) _ = _; simp only [Act.put, qa, qb, qc, i64_w, i32_w]; rfl
            refine pu2 6 (some 38) (bz 34 127) ?_
            refine pu2 7 (some 39) (bz 34 255) ?_
            refine pu2 8 (some 40) (bz 34 511) ?_
            refine pu2 9 (some 41) (bz 34 1023) ?_
            refine pu2 11 (some 43) (bz 34 3071) ?_
            refine tk2 10 (some 42) (bz 34 4095) ?_
            refine pu2 12 (some 44) (bz 34 8191) ?_
            refine pu2 13 (some 45) (bz 34 16383) ?_
            refine pu2 14 (some 46) (bz 34 32767) ?_
            refine pu2 15 (some 47) (bz 34 65535) ?_
            refine tk2 16 (some 48) (bz 34 131071) ?_
            refine pu2 17 (some 49) (bz 34 262143) ?_
            refine pu2 18 (some 50) (bz 34 524287) ?_
            refine pu2 19 (some 51) (bz 34 1048575) ?_
            refine pu2 20 (some 52) (bz 34 2097151) ?_
            refine pu2 21 (some 53) (bz 34 4194303) ?_
            refine pu2 22 (some 54) (bz 34 8388607) ?_
            refine pz2 23 (some 55) (bz 34 16777215) ?_
            refine pz2 24 (some 56) (bz 34 33554431) ?_
            refine pz2 25 (some 57) (bz 34 67108863) ?_
            refine pz2 26 (some 58) (bz 34 134217727) ?_
            refine pz2 27 (some 59) (bz 34 268435455) ?_
            refine pz2 28 (some 60) (bz 34 536870911) ?_
            refine pz2 29 (some 61) (bz 34 1073741823) ?_
            refine pz2 30 (some 62) (bz 34 2147483647) ?_
            refine pz2 31 (some 63) (bz 34 4294967295) ?_
            refine pu2 32 (some 64) (bz 34 8589934591) ?_
            refine pu2 33 (some 65) (bz 34 17179869183) ?_
            refine done_ (done_of HT_.out (by kernel_rfl)) ?_
            try go_wp2
            go_meet
            case rel => exact ⟨_, (false), fz, H', ⟨by have := HK1.out; exact fl⟩, ⟨kp BK233.out⟩, ⟨kp BK234.out⟩, ⟨fb2 GE233 GE234⟩⟩
        ·obtain rfl := bf_ c15
         rw [if_neg nf_] at H
         have H' := Aside0.mk H
         clear H
         try go_wp2
         have n0_ : Aside0 ((((((w10.setCell ⟨gb234, 0, none⟩ (.int .i64 ((rd_T58 l1 x5_1).f0))).setCell ⟨gb234, 1, none⟩ (.int .i64 ((rd_T58 l1 x5_1).f1))).setCell ⟨gb234, 2, none⟩ (.float .f64 ((rd_T58 l1 x5_1).f2))).setCell ⟨gb234, 3, none⟩ (.float .f64 ((rd_T58 l1 x5_1).f4))).setCell ⟨gb234, 4, none⟩ (.int .i64 ((rd_T58 l1 x5_1).f5))).heap[gb233]? = some (.cells #[.int .i64 ((rd_T58 l1 x5_1).f0), .int .i64 ((rd_T58 l1 x5_1).f1), .float .f64 ((rd_T58 l1 x5_1).f2), .int .i64 ((rd_T58 l1 x5_1).f3), .float .f64 ((rd_T58 l1 x5_1).f4), .int .i64 ((rd_T58 l1 x5_1).f5)] 58 (0, 0))) := ⟨kp1 NB233_234 BK233.out⟩
         have n1_ : Aside0 ((((((w10.setCell ⟨gb234, 0, none⟩ (.int .i64 ((rd_T58 l1 x5_1).f0))).setCell ⟨gb234, 1, none⟩ (.int .i64 ((rd_T58 l1 x5_1).f1))).setCell ⟨gb234, 2, none⟩ (.float .f64 ((rd_T58 l1 x5_1).f2))).setCell ⟨gb234, 3, none⟩ (.float .f64 ((rd_T58 l1 x5_1).f4))).setCell ⟨gb234, 4, none⟩ (.int .i64 ((rd_T58 l1 x5_1).f5))).heap[gb234]? = some (.cells #[.int .i64 ((rd_T58 l1 x5_1).f0), .int .i64 ((rd_T58 l1 x5_1).f1), .float .f64 ((rd_T58 l1 x5_1).f2), .float .f64 ((rd_T58 l1 x5_1).f4), .int .i64 ((rd_T58 l1 x5_1).f5)] 56 (0, 0))) := ⟨kp BK234.out⟩
         have n2_ : Aside0 (Below w.heap.size w (((((w10.setCell ⟨gb234, 0, none⟩ (.int .i64 ((rd_T58 l1 x5_1).f0))).setCell ⟨gb234, 1, none⟩ (.int .i64 ((rd_T58 l1 x5_1).f1))).setCell ⟨gb234, 2, none⟩ (.float .f64 ((rd_T58 l1 x5_1).f2))).setCell ⟨gb234, 3, none⟩ (.float .f64 ((rd_T58 l1 x5_1).f4))).setCell ⟨gb234, 4, none⟩ (.int .i64 ((rd_T58 l1 x5_1).f5)))) := ⟨fb2 GE233 GE234⟩
         (try clear BK233)
         (try clear BK234)
         (try clear HB)
         generalize (((((w10.setCell ⟨gb234, 0, none⟩ (.int .i64 ((rd_T58 l1 x5_1).f0))).setCell ⟨gb234, 1, none⟩ (.int .i64 ((rd_T58 l1 x5_1).f1))).setCell ⟨gb234, 2, none⟩ (.float .f64 ((rd_T58 l1 x5_1).f2))).setCell ⟨gb234, 3, none⟩ (.float .f64 ((rd_T58 l1 x5_1).f4))).setCell ⟨gb234, 4, none⟩ (.int .i64 ((rd_T58 l1 x5_1).f5))) = w34 at n0_ n1_ n2_ ⊢
         have BK233 := n0_
         have BK234 := n1_
         have HB := n2_
         clear n0_ n1_ n2_
         have n0_ := Aside0.mk (blk_drew BK233.out)
         have n1_ := Aside0.mk (blk_drew BK234.out)
         have n2_ := Aside0.mk (below_drew1 HB.out)
         clear BK233
         clear BK234
         clear HB
         have BK233 := n0_
         have BK234 := n1_
         have HB := n2_
         clear n0_ n1_ n2_
         refine start_ (n := 34) (S := fun w' => w'.cell? ⟨gb233, 0, none⟩ = some (.int .i64 ((rd_T58 l1 x5_1).f0)) ∧ w'.cell? ⟨gb233, 1, none⟩ = some (.int .i64 ((rd_T58 l1 x5_1).f1)) ∧ w'.cell? ⟨gb233, 2, none⟩ = some (.float .f64 ((rd_T58 l1 x5_1).f2)) ∧ w'.cell? ⟨gb233, 3, none⟩ = some (.int .i64 ((rd_T58 l1 x5_1).f3)) ∧ w'.cell? ⟨gb233, 4, none⟩ = some (.float .f64 ((rd_T58 l1 x5_1).f4)) ∧ w'.cell? ⟨gb233, 5, none⟩ = some (.int .i64 ((rd_T58 l1 x5_1).f5)) ∧ w'.cell? ⟨gb234, 0, none⟩ = some (.int .i64 ((rd_T58 l1 x5_1).f0)) ∧ w'.cell? ⟨gb234, 1, none⟩ = some (.int .i64 ((rd_T58 l1 x5_1).f1)) ∧ w'.cell? ⟨gb234, 2, none⟩ = some (.float .f64 ((rd_T58 l1 x5_1).f2)) ∧ w'.cell? ⟨gb234, 3, none⟩ = some (.float .f64 ((rd_T58 l1 x5_1).f4)) ∧ w'.cell? ⟨gb234, 4, none⟩ = some (.int .i64 ((rd_T58 l1 x5_1).f5))) (ds := []) (bz 34 0) (by kernel_rfl) rfl rfl ⟨(blk_cell BK233.out 0).trans rfl, (blk_cell BK233.out 1).trans rfl, (blk_cell BK233.out 2).trans rfl, (blk_cell BK233.out 3).trans rfl, (blk_cell BK233.out 4).trans rfl, (blk_cell BK233.out 5).trans rfl, (blk_cell BK234.out 0).trans rfl, (blk_cell BK234.out 1).trans rfl, (blk_cell BK234.out 2).trans rfl, (blk_cell BK234.out 3).trans rfl, (blk_cell BK234.out 4).trans rfl⟩ (fun hHeld => ?_); refine with_tabW beaconref15_may.tab8 beaconref15_may.bits8 (fun HT_ HW_ => ?_)
         generalize w34.drew = w35 at BK233 BK234 HB hHeld ⊢
         refine pu2 0 (some 32) (bz 34 1) ?_
         refine tk2 1 (some 33) (bz 34 3) ?_
         refine pu2 2 (some 34) (bz 34 7) ?_
         refine pu2 3 (some 35) (bz 34 15) ?_
         refine tk2 4 (some 36) (bz 34 31) ?_
         refine one_ (i := 5) (N := some 37) (bz 34 63) rfl rfl (one_of HT_.out (by kernel_rfl)) (by decide) (fun K hK => ?_)
         refine goes_ Try.func87 (by kernel_rfl) rfl #[.agg #[.int .i64 ((rd_T58 l1 x5_1).f0), .int .i64 ((rd_T58 l1 x5_1).f1), .float .f64 ((rd_T58 l1 x5_1).f2), .float .f64 ((rd_T58 l1 x5_1).f4), .int .i64 ((rd_T58 l1 x5_1).f5)]] (by rfl) rfl rfl (by (try simp only [List.map_toArray, List.map_cons, List.map_nil]); first | done | rfl | (simp only [List.length_drop, List.length_take]; rfl)) ?_
         with_reducible refine (beaconref06_May.calls k1 ((rd_T58 l1 x5_1).f0) ((rd_T58 l1 x5_1).f1) ((rd_T58 l1 x5_1).f2) ((rd_T58 l1 x5_1).f4) ((rd_T58 l1 x5_1).f5) false _ A14.out).mono ?_
         rintro e w36 ⟨rfl, hb⟩
         refine ⟨_, rfl, ?_⟩
         have n0_ := Aside0.mk (blk_below (g := gb233) (o := .cells #[.int .i64 ((rd_T58 l1 x5_1).f0), .int .i64 ((rd_T58 l1 x5_1).f1), .float .f64 ((rd_T58 l1 x5_1).f2), .int .i64 ((rd_T58 l1 x5_1).f3), .float .f64 ((rd_T58 l1 x5_1).f4), .int .i64 ((rd_T58 l1 x5_1).f5)] 58 (0, 0)) (kp BK233.out) hb)
         have n1_ := Aside0.mk (blk_below (g := gb234) (o := .cells #[.int .i64 ((rd_T58 l1 x5_1).f0), .int .i64 ((rd_T58 l1 x5_1).f1), .float .f64 ((rd_T58 l1 x5_1).f2), .float .f64 ((rd_T58 l1 x5_1).f4), .int .i64 ((rd_T58 l1 x5_1).f5)] 56 (0, 0)) (kp BK234.out) hb)
         have n2_ := Aside0.mk (below_step (fb2 GE233 GE234) hb)
         clear BK233
         clear BK234
         clear HB
         have BK233 := n0_
         have BK234 := n1_
         have HB := n2_
         clear n0_ n1_ n2_
         (try clear hb)
         refine hK.out _ _ ⟨(blk_cell BK233.out 0).trans rfl, (blk_cell BK233.out 1).trans rfl, (blk_cell BK233.out 2).trans rfl, (blk_cell BK233.out 3).trans rfl, (blk_cell BK233.out 4).trans rfl, (blk_cell BK233.out 5).trans rfl, (blk_cell BK234.out 0).trans rfl, (blk_cell BK234.out 1).trans rfl, (blk_cell BK234.out 2).trans rfl, (blk_cell BK234.out 3).trans rfl, (blk_cell BK234.out 4).trans rfl⟩ (fun hHeld => ?_)
         clear hK K
         refine norm_ (a' := ?_) ?_ ?_; rotate_left; show Act.put _ (some 37) _ = _; simp only [Act.put, qa, qb, qc, i64_w, i32_w]; rfl
         refine pu2 6 (some 38) (bz 34 127) ?_
         refine pu2 7 (some 39) (bz 34 255) ?_
         refine pu2 8 (some 40) (bz 34 511) ?_
         refine pz2 9 (some 41) (bz 34 1023) ?_
         refine pz2 10 (some 42) (bz 34 2047) ?_
         refine pz2 11 (some 43) (bz 34 4095) ?_
         refine pz2 12 (some 44) (bz 34 8191) ?_
         refine pu2 13 (some 45) (bz 34 16383) ?_
         refine pu2 14 (some 46) (bz 34 32767) ?_
         refine pz2 15 (some 47) (bz 34 65535) ?_
         refine pz2 16 (some 48) (bz 34 131071) ?_
         refine pz2 17 (some 49) (bz 34 262143) ?_
         refine pu2 18 (some 50) (bz 34 524287) ?_
         refine pu2 19 (some 51) (bz 34 1048575) ?_
         refine pz2 20 (some 52) (bz 34 2097151) ?_
         refine pz2 21 (some 53) (bz 34 4194303) ?_
         refine pz2 22 (some 54) (bz 34 8388607) ?_
         refine pz2 23 (some 55) (bz 34 16777215) ?_
         refine pz2 24 (some 56) (bz 34 33554431) ?_
         refine pz2 25 (some 57) (bz 34 67108863) ?_
         refine pz2 26 (some 58) (bz 34 134217727) ?_
         refine pz2 27 (some 59) (bz 34 268435455) ?_
         refine pz2 28 (some 60) (bz 34 536870911) ?_
         refine pz2 29 (some 61) (bz 34 1073741823) ?_
         refine pz2 30 (some 62) (bz 34 2147483647) ?_
         refine pz2 31 (some 63) (bz 34 4294967295) ?_
         refine pz2 32 (some 64) (bz 34 8589934591) ?_
         refine pu2 33 (some 65) (bz 34 17179869183) ?_
         refine done_ (done_of HT_.out (by kernel_rfl)) ?_
         try go_wp2
         go_meet
         case rel => exact ⟨_, (true), fz, H', ⟨by have := HK1.out; exact fl⟩, ⟨kp BK233.out⟩, ⟨kp BK234.out⟩, ⟨fb2 GE233 GE234⟩⟩
       ·rw [if_neg c13] at H
        have c13b0 := bh_ c13
        have c13b1 := bi_ c13
        (first | rw [c13b0] | (simp only [i64_w, i32_w]; rw [c13b0]) | skip)
        have H' := Aside0.mk H
        clear H
        try go_wp2
        have n0_ : Aside0 ((((((w10.setCell ⟨gb234, 0, none⟩ (.int .i64 ((rd_T58 l1 x5_1).f0))).setCell ⟨gb234, 1, none⟩ (.int .i64 ((rd_T58 l1 x5_1).f1))).setCell ⟨gb234, 2, none⟩ (.float .f64 ((rd_T58 l1 x5_1).f2))).setCell ⟨gb234, 3, none⟩ (.float .f64 ((rd_T58 l1 x5_1).f4))).setCell ⟨gb234, 4, none⟩ (.int .i64 ((rd_T58 l1 x5_1).f5))).heap[gb233]? = some (.cells #[.int .i64 ((rd_T58 l1 x5_1).f0), .int .i64 ((rd_T58 l1 x5_1).f1), .float .f64 ((rd_T58 l1 x5_1).f2), .int .i64 ((rd_T58 l1 x5_1).f3), .float .f64 ((rd_T58 l1 x5_1).f4), .int .i64 ((rd_T58 l1 x5_1).f5)] 58 (0, 0))) := ⟨kp1 NB233_234 BK233.out⟩
        have n1_ : Aside0 ((((((w10.setCell ⟨gb234, 0, none⟩ (.int .i64 ((rd_T58 l1 x5_1).f0))).setCell ⟨gb234, 1, none⟩ (.int .i64 ((rd_T58 l1 x5_1).f1))).setCell ⟨gb234, 2, none⟩ (.float .f64 ((rd_T58 l1 x5_1).f2))).setCell ⟨gb234, 3, none⟩ (.float .f64 ((rd_T58 l1 x5_1).f4))).setCell ⟨gb234, 4, none⟩ (.int .i64 ((rd_T58 l1 x5_1).f5))).heap[gb234]? = some (.cells #[.int .i64 ((rd_T58 l1 x5_1).f0), .int .i64 ((rd_T58 l1 x5_1).f1), .float .f64 ((rd_T58 l1 x5_1).f2), .float .f64 ((rd_T58 l1 x5_1).f4), .int .i64 ((rd_T58 l1 x5_1).f5)] 56 (0, 0))) := ⟨kp BK234.out⟩
        have n2_ : Aside0 (Below w.heap.size w (((((w10.setCell ⟨gb234, 0, none⟩ (.int .i64 ((rd_T58 l1 x5_1).f0))).setCell ⟨gb234, 1, none⟩ (.int .i64 ((rd_T58 l1 x5_1).f1))).setCell ⟨gb234, 2, none⟩ (.float .f64 ((rd_T58 l1 x5_1).f2))).setCell ⟨gb234, 3, none⟩ (.float .f64 ((rd_T58 l1 x5_1).f4))).setCell ⟨gb234, 4, none⟩ (.int .i64 ((rd_T58 l1 x5_1).f5)))) := ⟨fb2 GE233 GE234⟩
        (try clear BK233)
        (try clear BK234)
        (try clear HB)
        generalize (((((w10.setCell ⟨gb234, 0, none⟩ (.int .i64 ((rd_T58 l1 x5_1).f0))).setCell ⟨gb234, 1, none⟩ (.int .i64 ((rd_T58 l1 x5_1).f1))).setCell ⟨gb234, 2, none⟩ (.float .f64 ((rd_T58 l1 x5_1).f2))).setCell ⟨gb234, 3, none⟩ (.float .f64 ((rd_T58 l1 x5_1).f4))).setCell ⟨gb234, 4, none⟩ (.int .i64 ((rd_T58 l1 x5_1).f5))) = w37 at n0_ n1_ n2_ ⊢
        have BK233 := n0_
        have BK234 := n1_
        have HB := n2_
        clear n0_ n1_ n2_
        have n0_ := Aside0.mk (blk_drew BK233.out)
        have n1_ := Aside0.mk (blk_drew BK234.out)
        have n2_ := Aside0.mk (below_drew1 HB.out)
        clear BK233
        clear BK234
        clear HB
        have BK233 := n0_
        have BK234 := n1_
        have HB := n2_
        clear n0_ n1_ n2_
        refine start_ (n := 34) (S := fun w' => w'.cell? ⟨gb233, 0, none⟩ = some (.int .i64 ((rd_T58 l1 x5_1).f0)) ∧ w'.cell? ⟨gb233, 1, none⟩ = some (.int .i64 ((rd_T58 l1 x5_1).f1)) ∧ w'.cell? ⟨gb233, 2, none⟩ = some (.float .f64 ((rd_T58 l1 x5_1).f2)) ∧ w'.cell? ⟨gb233, 3, none⟩ = some (.int .i64 ((rd_T58 l1 x5_1).f3)) ∧ w'.cell? ⟨gb233, 4, none⟩ = some (.float .f64 ((rd_T58 l1 x5_1).f4)) ∧ w'.cell? ⟨gb233, 5, none⟩ = some (.int .i64 ((rd_T58 l1 x5_1).f5))) (ds := []) (bz 34 0) (by kernel_rfl) rfl rfl ⟨(blk_cell BK233.out 0).trans rfl, (blk_cell BK233.out 1).trans rfl, (blk_cell BK233.out 2).trans rfl, (blk_cell BK233.out 3).trans rfl, (blk_cell BK233.out 4).trans rfl, (blk_cell BK233.out 5).trans rfl⟩ (fun hHeld => ?_); refine with_tabW beaconref15_may.tab8 beaconref15_may.bits8 (fun HT_ HW_ => ?_)
        generalize w37.drew = w38 at BK233 BK234 HB hHeld ⊢
        refine pu2 0 (some 32) (bz 34 1) ?_
        refine tk2 1 (some 33) (bz 34 3) ?_
        refine pu2 2 (some 34) (bz 34 7) ?_
        refine pu2 3 (some 35) (bz 34 15) ?_
        refine pz2 4 (some 36) (bz 34 31) ?_
        refine pz2 5 (some 37) (bz 34 63) ?_
        refine pz2 6 (some 38) (bz 34 127) ?_
        refine pu2 7 (some 39) (bz 34 255) ?_
        refine pu2 8 (some 40) (bz 34 511) ?_
        refine pz2 9 (some 41) (bz 34 1023) ?_
        refine pz2 10 (some 42) (bz 34 2047) ?_
        refine pz2 11 (some 43) (bz 34 4095) ?_
        refine pz2 12 (some 44) (bz 34 8191) ?_
        refine pu2 13 (some 45) (bz 34 16383) ?_
        refine pu2 14 (some 46) (bz 34 32767) ?_
        refine pz2 15 (some 47) (bz 34 65535) ?_
        refine pz2 16 (some 48) (bz 34 131071) ?_
        refine pz2 17 (some 49) (bz 34 262143) ?_
        refine pu2 18 (some 50) (bz 34 524287) ?_
        refine pu2 19 (some 51) (bz 34 1048575) ?_
        refine pz2 20 (some 52) (bz 34 2097151) ?_
        refine pz2 21 (some 53) (bz 34 4194303) ?_
        refine pz2 22 (some 54) (bz 34 8388607) ?_
        refine pz2 23 (some 55) (bz 34 16777215) ?_
        refine pz2 24 (some 56) (bz 34 33554431) ?_
        refine pz2 25 (some 57) (bz 34 67108863) ?_
        refine pz2 26 (some 58) (bz 34 134217727) ?_
        refine pz2 27 (some 59) (bz 34 268435455) ?_
        refine pz2 28 (some 60) (bz 34 536870911) ?_
        refine pz2 29 (some 61) (bz 34 1073741823) ?_
        refine pz2 30 (some 62) (bz 34 2147483647) ?_
        refine pz2 31 (some 63) (bz 34 4294967295) ?_
        refine pz2 32 (some 64) (bz 34 8589934591) ?_
        refine pu2 33 (some 65) (bz 34 17179869183) ?_
        refine done_ (done_of HT_.out (by kernel_rfl)) ?_
        try go_wp2
        go_meet
        case rel => exact ⟨_, (true), fz, H', ⟨by have := HK1.out; exact fl⟩, ⟨kp BK233.out⟩, ⟨kp BK234.out⟩, ⟨fb2 GE233 GE234⟩⟩
      case rest =>
       clear HC7
       (try clear c1)
       obtain ⟨kq, x65_6, rfl, HA, HJ6, BK233, BK234, HB⟩ := hcut
       cases kq with
       | zero => exact absurd HA.out (by simp [beaconref15_may.j1])
       | succ kj6 =>
        have H := HA.out
        clear HA
        simp only [beaconref15_may.j1] at H
        by_cases c39 : x65_6 = true
        ·subst c39
         rw [if_pos rfl] at H
         obtain rfl := oj_ H
         go_wp2
         go_ret
         exact ⟨fe, fb2 GE233 GE234⟩
        ·obtain rfl := bf_ c39
         rw [if_neg nf_] at H
         have HC40 := Aside0.mk H
         clear H
         go_upto_region 10 with (fail)
         go_cut [85] (fun v85 wc => ∃ (kq : Nat) (x85_39 : Bool), v85 = .bool x85_39 ∧ Aside0 (beaconref15_may.j2 kq a0 l1 x5_1 x85_39 = some r) ∧ Aside0 (kq ≤ kj6) ∧ Aside0 (wc.heap[gb233]? = some (.cells #[.int .i64 ((rd_T58 l1 x5_1).f0), .int .i64 ((rd_T58 l1 x5_1).f1), .float .f64 ((rd_T58 l1 x5_1).f2), .int .i64 ((rd_T58 l1 x5_1).f3), .float .f64 ((rd_T58 l1 x5_1).f4), .int .i64 ((rd_T58 l1 x5_1).f5)] 58 (0, 0))) ∧ Aside0 (wc.heap[gb234]? = some (.cells #[.int .i64 ((rd_T58 l1 x5_1).f0), .int .i64 ((rd_T58 l1 x5_1).f1), .float .f64 ((rd_T58 l1 x5_1).f2), .float .f64 ((rd_T58 l1 x5_1).f4), .int .i64 ((rd_T58 l1 x5_1).f5)] 56 (0, 0))) ∧ Aside0 (Below w.heap.size w wc))
         case first =>
          have H := HC40.out
          clear HC40
          replace H := bs_ H; obtain ⟨t237, A41, H⟩ := H
          by_cases c42 : t237 = true
          ·subst c42
           rw [if_pos rfl] at H
           by_cases c43 : ((rd_T58 l1 x5_1).f3) = 0
           ·rw [if_pos c43] at H
            have c43b0 := be_ c43
            have c43b1 := bg_ c43
            clear c43
            (first | rw [c43b0] | (simp only [i64_w, i32_w]; rw [c43b0]) | skip)
            replace H := bs_ H; obtain ⟨t238, A44, H⟩ := H
            by_cases c45 : t238 = true
            ·subst c45
             rw [if_pos rfl] at H
             have H' := Aside0.mk H
             clear H
             have hnb46 := NB233_234.out
             have hnc46 := NB234_233.out
             obtain ⟨hcz47_0, hcz47_1, hcz47_2, hcz47_3, hcz47_4, hcz47_5, hfz47_0, hfz47_1, hfz47_2, hfz47_3, hfz47_4, hfz47_5⟩ := cz6 BK233.out
             go_wp2_with (first | ((with_reducible refine gate_callee (f := 67) rfl ?_); refine gl_ (some 68) Try.func67 #[.float .f64 ((rd_T58 l1 x5_1).f2)] ?_; (with_reducible refine (beaconref15_Far.calls ((rd_T58 l1 x5_1).f2) true _ A41.out).mono ?_); rintro e w' ⟨rfl, ⟨nd, rfl⟩⟩; refine ⟨_, rfl, ?_⟩) | (go_at_call 67; (with_reducible refine (beaconref15_Far.calls ((rd_T58 l1 x5_1).f2) true _ A44.out).mono ?_); rintro e w' ⟨rfl, ⟨nd, rfl⟩⟩))
             go_meet
             case rel => exact ⟨_, (false), fz, H', ⟨by have := HK1.out; have := HJ6.out; exact fl⟩, ⟨kp BK233.out⟩, ⟨kp BK234.out⟩, ⟨fb2 GE233 GE234⟩⟩
            ·obtain rfl := bf_ c45
             rw [if_neg nf_] at H
             replace H := bs_ H; obtain ⟨t239, A48, H⟩ := H
             have H' := Aside0.mk H
             clear H
             have hnb49 := NB233_234.out
             have hnc49 := NB234_233.out
             obtain ⟨hcz50_0, hcz50_1, hcz50_2, hcz50_3, hcz50_4, hcz50_5, hfz50_0, hfz50_1, hfz50_2, hfz50_3, hfz50_4, hfz50_5⟩ := cz6 BK233.out
             go_wp2_with (first | ((with_reducible refine gate_callee (f := 67) rfl ?_); refine gl_ (some 68) Try.func67 #[.float .f64 ((rd_T58 l1 x5_1).f2)] ?_; (with_reducible refine (beaconref15_Far.calls ((rd_T58 l1 x5_1).f2) true _ A41.out).mono ?_); rintro e w' ⟨rfl, ⟨nd, rfl⟩⟩; refine ⟨_, rfl, ?_⟩) | (go_at_call 67; (with_reducible refine (beaconref15_Far.calls ((rd_T58 l1 x5_1).f2) false _ A44.out).mono ?_); rintro e w' ⟨rfl, ⟨nd, rfl⟩⟩) | (go_at_call 52; (with_reducible refine (beaconref15_number.calls kj6 ((rd_T58 l1 x5_1).f3) t239 _ A48.out).mono ?_); rintro e w' ⟨rfl, ⟨nd, rfl⟩⟩))
             go_meet
             case rel => exact ⟨_, (!t239), fz, H', ⟨by have := HK1.out; have := HJ6.out; exact fl⟩, ⟨kp BK233.out⟩, ⟨kp BK234.out⟩, ⟨fb2 GE233 GE234⟩⟩
           ·rw [if_neg c43] at H
            have c43b0 := bh_ c43
            have c43b1 := bi_ c43
            (first | rw [c43b0] | (simp only [i64_w, i32_w]; rw [c43b0]) | skip)
            have H' := Aside0.mk H
            clear H
            have hnb51 := NB233_234.out
            have hnc51 := NB234_233.out
            obtain ⟨hcz52_0, hcz52_1, hcz52_2, hcz52_3, hcz52_4, hcz52_5, hfz52_0, hfz52_1, hfz52_2, hfz52_3, hfz52_4, hfz52_5⟩ := cz6 BK233.out
            go_wp2_with (first | ((with_reducible refine gate_callee (f := 67) rfl ?_); refine gl_ (some 68) Try.func67 #[.float .f64 ((rd_T58 l1 x5_1).f2)] ?_; (with_reducible refine (beaconref15_Far.calls ((rd_T58 l1 x5_1).f2) true _ A41.out).mono ?_); rintro e w' ⟨rfl, ⟨nd, rfl⟩⟩; refine ⟨_, rfl, ?_⟩))
            go_meet
            case rel => exact ⟨_, (true), fz, H', ⟨by have := HK1.out; have := HJ6.out; exact fl⟩, ⟨kp BK233.out⟩, ⟨kp BK234.out⟩, ⟨fb2 GE233 GE234⟩⟩
          ·obtain rfl := bf_ c42
           rw [if_neg nf_] at H
           replace H := bs_ H; obtain ⟨t240, A53, H⟩ := H
           by_cases c54 : t240 = true
           ·subst c54
            rw [if_pos rfl] at H
            have H' := Aside0.mk H
            clear H
            have hnb55 := NB233_234.out
            have hnc55 := NB234_233.out
            obtain ⟨hcz56_0, hcz56_1, hcz56_2, hcz56_3, hcz56_4, hcz56_5, hfz56_0, hfz56_1, hfz56_2, hfz56_3, hfz56_4, hfz56_5⟩ := cz6 BK233.out
            go_wp2_with (first | ((with_reducible refine gate_callee (f := 67) rfl ?_); refine gl_ (some 68) Try.func67 #[.float .f64 ((rd_T58 l1 x5_1).f2)] ?_; (with_reducible refine (beaconref15_Far.calls ((rd_T58 l1 x5_1).f2) false _ A41.out).mono ?_); rintro e w' ⟨rfl, ⟨nd, rfl⟩⟩; refine ⟨_, rfl, ?_⟩) | (go_at_call 67; (with_reducible refine (beaconref15_Far.calls ((rd_T58 l1 x5_1).f2) true _ A53.out).mono ?_); rintro e w' ⟨rfl, ⟨nd, rfl⟩⟩))
            go_meet
            case rel => exact ⟨_, (false), fz, H', ⟨by have := HK1.out; have := HJ6.out; exact fl⟩, ⟨kp BK233.out⟩, ⟨kp BK234.out⟩, ⟨fb2 GE233 GE234⟩⟩
           ·obtain rfl := bf_ c54
            rw [if_neg nf_] at H
            replace H := bs_ H; obtain ⟨t241, A57, H⟩ := H
            have H' := Aside0.mk H
            clear H
            have hnb58 := NB233_234.out
            have hnc58 := NB234_233.out
            obtain ⟨hcz59_0, hcz59_1, hcz59_2, hcz59_3, hcz59_4, hcz59_5, hfz59_0, hfz59_1, hfz59_2, hfz59_3, hfz59_4, hfz59_5⟩ := cz6 BK233.out
            go_wp2_with (first | ((with_reducible refine gate_callee (f := 67) rfl ?_); refine gl_ (some 68) Try.func67 #[.float .f64 ((rd_T58 l1 x5_1).f2)] ?_; (with_reducible refine (beaconref15_Far.calls ((rd_T58 l1 x5_1).f2) false _ A41.out).mono ?_); rintro e w' ⟨rfl, ⟨nd, rfl⟩⟩; refine ⟨_, rfl, ?_⟩) | (go_at_call 67; (with_reducible refine (beaconref15_Far.calls ((rd_T58 l1 x5_1).f2) false _ A53.out).mono ?_); rintro e w' ⟨rfl, ⟨nd, rfl⟩⟩) | (go_at_call 52; (with_reducible refine (beaconref15_number.calls kj6 ((rd_T58 l1 x5_1).f3) t241 _ A57.out).mono ?_); rintro e w' ⟨rfl, ⟨nd, rfl⟩⟩))
            go_meet
            case rel => exact ⟨_, (!t241), fz, H', ⟨by have := HK1.out; have := HJ6.out; exact fl⟩, ⟨kp BK233.out⟩, ⟨kp BK234.out⟩, ⟨fb2 GE233 GE234⟩⟩
         case rest =>
          clear HC40
          (try clear c1); (try clear c4); (try clear c5); (try clear c6); (try clear c39)
          obtain ⟨kq, x85_39, rfl, HA, HJ39, BK233, BK234, HB⟩ := hcut
          cases kq with
          | zero => exact absurd HA.out (by simp [beaconref15_may.j2])
          | succ kj39 =>
           have H := HA.out
           clear HA
           simp only [beaconref15_may.j2] at H
           by_cases c60 : x85_39 = true
           ·subst c60
            rw [if_pos rfl] at H
            obtain rfl := oj_ H
            go_wp2
            go_ret
            exact ⟨fe, fb2 GE233 GE234⟩
           ·obtain rfl := bf_ c60
            rw [if_neg nf_] at H
            have H' := Aside0.mk H
            clear H
            go_wp2
            go_roundg kj39
            case measure => have := HK1.out; have := HJ6.out; have := HJ39.out; omega
            case rel => exact ⟨(wrap64 (x5_1 + 1)), fz, H', ⟨by have := HK1.out; have := HJ6.out; have := HJ39.out; omega⟩, ⟨fb2 GE233 GE234⟩⟩
     ·rw [if_neg c6] at H
      exact absurd H (by simp)
    ·rw [if_neg c5] at H
     have c5b0 := decide_eq_false c5
     clear c5
     obtain rfl := oj_ H
     go_wp2
     go_ret
     exact ⟨fe, fb⟩
 ·obtain rfl := bf_ c4
  rw [if_neg nf_] at H
  obtain rfl := oj_ H
  go_enter Try.func65, Try.ntmps65
  go_wp2_with (first | ((with_reducible refine gate_callee (f := 52) rfl ?_); refine gl_ (some 9) Try.func52 #[.int .i64 a0] ?_; (with_reducible refine (beaconref15_number.calls k a0 false _ A3.out).mono ?_); rintro e w' ⟨rfl, ⟨nd, rfl⟩⟩; refine ⟨_, rfl, ?_⟩))
  go_ret
  exact ⟨fe, fb⟩

end Go.Proofs.Ytjkhckbfkinheaa.GAa
