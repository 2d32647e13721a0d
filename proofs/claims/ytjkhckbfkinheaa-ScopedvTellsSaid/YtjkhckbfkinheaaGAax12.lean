-- written by a program of this session (wip/pp): see NOTES.md
import Derived.Test.YtjkhckbfkinheaaGAax0
import Derived.Test.YtjkhckbfkinheaaGAax2
import Derived.Test.YtjkhckbfkinheaaGAax3
import Derived.Test.YtjkhckbfkinheaaGAax11
namespace Go.Proofs.Ytjkhckbfkinheaa.GAa
open Go.RowKit Go.Proofs.YtjkhckbfkinheaaW.PrintWords Go.Proofs.YtjkhckbfkinheaaW.PrintLast Go.Proofs.YtjkhckbfkinheaaW.PrintMore
attribute [local go_sem] max2_int min2_int max_two min_two max_three min_three max_four min_four   -- for this text's walks alone
attribute [local go_sem high] binOp_flss binOp_fgtr binOp_fleq binOp_fgeq binOp_feql binOp_fneq run_fadd run_fsub run_fmul run_fquo unary_fneg run_ftoint run_fofint run_feqIn ext_bits ext_frombits ext_trunc
set_option linter.unusedVariables false
set_option linter.unusedSimpArgs false

/-! ### landdv_Check: function 17 -/
mutual
def landdv_Check.l0 : Nat → Int → List (S54) → List (S54) → Int → Int → Option (Int)
 | 0, _, _, _, _, _ => none
 | k + 1, x0, x1, x13, x14, x15 => if x15 < x14 then (if 0 ≤ x15 then (if x15 < (x13.length : Int) then (if ((rd_T54 x13 x15).f0) = x0 then (landdv_Check.j1 k x0 x1 x13 x14 x15 true) else ((ident_CheckId.f k ((rd_T54 x13 x15).f0)).bind fun t171 => (if t171 = 0 then (if x15 > 0 then (if 0 ≤ (wrap64 (x15 - 1)) then (if (wrap64 (x15 - 1)) < (x1.length : Int) then (if ((rd_T54 x13 x15).f0) ≤ ((rd_T54 x1 (wrap64 (x15 - 1))).f0) then (landdv_Check.j1 k x0 x1 x13 x14 x15 true) else ((metric_Weight.f ((rd_T54 x13 x15).f1)).bind fun t173 => (if t173 = 0 then ((landdv_list.f k ((rd_T54 x13 x15).f2)).bind fun t174 => (landdv_Check.j1 k x0 x1 x13 x14 x15 (!t174))) else (landdv_Check.j1 k x0 x1 x13 x14 x15 true)))) else (none)) else (none)) else ((metric_Weight.f ((rd_T54 x13 x15).f1)).bind fun t175 => (if t175 = 0 then ((landdv_list.f k ((rd_T54 x13 x15).f2)).bind fun t176 => (landdv_Check.j1 k x0 x1 x13 x14 x15 (!t176))) else (landdv_Check.j1 k x0 x1 x13 x14 x15 true)))) else (landdv_Check.j1 k x0 x1 x13 x14 x15 true)))) else (none)) else (none)) else (some 0)
def landdv_Check.j1 : Nat → Int → List (S54) → List (S54) → Int → Int → Bool → Option (Int)
 | 0, _, _, _, _, _, _ => none
 | k + 1, x0, x1, x13, x14, x15, x56 => if x56 = true then (some 1) else (landdv_Check.l0 k x0 x1 x13 x14 (wrap64 (x15 + 1)))
end
def landdv_Check.f (k : Nat) (a0 : Int) (l1 : List (S54)) : Option (Int) := (ident_CheckId.f k a0).bind fun t168 => (if t168 = 0 then (landdv_Check.l0 k a0 l1 l1 (l1.length : Int) 0) else (some t168))
theorem landdv_Check.mono_l : ∀ k, (∀ y0 y1 y2 y3 y4, LeO (landdv_Check.l0 k y0 y1 y2 y3 y4) (landdv_Check.l0 (k + 1) y0 y1 y2 y3 y4)) ∧ (∀ y0 y1 y2 y3 y4 y5, LeO (landdv_Check.j1 k y0 y1 y2 y3 y4 y5) (landdv_Check.j1 (k + 1) y0 y1 y2 y3 y4 y5))
 | 0 => ⟨fun _ _ _ _ _ r h => by simp [landdv_Check.l0] at h, fun _ _ _ _ _ _ r h => by simp [landdv_Check.j1] at h⟩
 | k + 1 => by
  obtain ⟨ih0, ih1⟩ := landdv_Check.mono_l k
  refine ⟨?_, ?_⟩
  ·intro y0 y1 y2 y3 y4
   unfold landdv_Check.l0
   repeat' first
   | (with_reducible exact ih0 _ _ _ _ _)
   | (with_reducible exact ih1 _ _ _ _ _ _)
   | (with_reducible exact ident_CheckId.mono _ _)
   | (with_reducible exact landdv_list.mono _ _)
   | (with_reducible exact LeO.refl _)
   | (with_reducible exact LeO.none _)
   | (with_reducible refine LeO.ite ?_ ?_)
   | (with_reducible refine LeO.bind ?_ (fun _ => ?_))
   | exact ih0 _ _ _ _ _
   | exact ih1 _ _ _ _ _ _
   | exact ident_CheckId.mono _ _
   | exact landdv_list.mono _ _
   | exact LeO.none _
   | refine LeO.ite ?_ ?_
   | refine LeO.bind ?_ (fun _ => ?_)
  ·intro y0 y1 y2 y3 y4 y5
   unfold landdv_Check.j1
   repeat' first
   | (with_reducible exact ih0 _ _ _ _ _)
   | (with_reducible exact ih1 _ _ _ _ _ _)
   | (with_reducible exact ident_CheckId.mono _ _)
   | (with_reducible exact landdv_list.mono _ _)
   | (with_reducible exact LeO.refl _)
   | (with_reducible exact LeO.none _)
   | (with_reducible refine LeO.ite ?_ ?_)
   | (with_reducible refine LeO.bind ?_ (fun _ => ?_))
   | exact ih0 _ _ _ _ _
   | exact ih1 _ _ _ _ _ _
   | exact ident_CheckId.mono _ _
   | exact landdv_list.mono _ _
   | exact LeO.none _
   | refine LeO.ite ?_ ?_
   | refine LeO.bind ?_ (fun _ => ?_)
theorem landdv_Check.mono : ∀ a0 a1 k, LeO (landdv_Check.f k a0 a1) (landdv_Check.f (k + 1) a0 a1) := by
 intro a0 a1 k
 obtain ⟨ih0, ih1⟩ := landdv_Check.mono_l k
 unfold landdv_Check.f
 repeat' first
   | (with_reducible exact ih0 _ _ _ _ _)
   | (with_reducible exact ih1 _ _ _ _ _ _)
   | (with_reducible exact ident_CheckId.mono _ _)
   | (with_reducible exact landdv_list.mono _ _)
   | (with_reducible exact LeO.refl _)
   | (with_reducible exact LeO.none _)
   | (with_reducible refine LeO.ite ?_ ?_)
   | (with_reducible refine LeO.bind ?_ (fun _ => ?_))
   | exact ih0 _ _ _ _ _
   | exact ih1 _ _ _ _ _ _
   | exact ident_CheckId.mono _ _
   | exact landdv_list.mono _ _
   | exact LeO.none _
   | refine LeO.ite ?_ ?_
   | refine LeO.bind ?_ (fun _ => ?_)
def landdv_Check.T7 : Bool × List (List Nat × List Nat) := (true, [([], []), ([0], [0]), ([], []), ([1, 2], [1, 2]), ([3], [3]), ([4], [4]), ([5, 4], [4, 5]), ([6, 4, 4], [4, 6]), ([7, 4], [4, 7]), ([4, 8], [4, 8]), ([9, 7], [9]), ([10], [10]), ([11, 10], [10, 11]), ([12, 10, 10], [10, 12]), ([13], [13]), ([14, 13], [13, 14]), ([13], [13]), ([13], [13]), ([17, 13], [13, 17]), ([16, 18, 13], [13, 16, 18]), ([19, 13], [13, 19]), ([20, 13], [13, 20]), ([15, 21, 13], [13, 15, 21]), ([13, 22, 10], [10, 13, 22]), ([10, 23], [10, 23]), ([24, 13], [24]), ([25], [25]), ([26, 25], [25, 26]), ([27, 25, 25], [25, 27]), ([28, 25], [25, 28]), ([25, 29], [25, 29]), ([30, 28], [30]), ([31], [31]), ([32, 31], [31, 32]), ([33, 31, 31], [31, 33]), ([34, 31], [31, 34]), ([31, 35], [31, 35])])
def landdv_Check.B7 : List Nat := [0, 1, 0, 7, 15, 31, 63, 127, 255, 511, 1023, 2047, 4095, 8191, 16383, 32767, 16383, 16383, 147455, 475135, 999423, 2047999, 4194303, 8388607, 16777215, 33554431, 67108863, 134217727, 268435455, 536870911, 1073741823, 2147483647, 4294967295, 8589934591, 17179869183, 34359738367, 68719476735]
theorem landdv_Check.tab7 : rtab .any (opsOf Try.f17 7) = landdv_Check.T7 := by kernel_rfl
theorem landdv_Check.bits7 : waitsOk landdv_Check.T7.2 landdv_Check.B7 = true := by kernel_rfl
set_option maxHeartbeats 8000000 in
set_option maxRecDepth 100000 in
theorem landdv_Check.calls (k : Nat) (a0 : Int) (A1 : Option Addr) (c1 : Nat) (l1 : List (S54)) (r : Int) (w : World) (hr1 : Kd.C k54 w A1 l1.length l1) (hc1 : l1.length ≤ c1) (h : landdv_Check.f k a0 l1 = some r) :
  Calls Try.prog 17 #[.int .i64 a0, .slice A1 l1.length c1] w fun e w' => e = .returned (.int .i64 r) ∧ Below w.heap.size w w' := by
 have hu54 := Try.underlying54
 have HR1 := Aside0.mk hr1
 have HC1 := Aside0.mk hc1
 clear hr1 hc1
 have HB := Aside0.mk (Below.refl w.heap.size w)
 have H : ((ident_CheckId.f k a0).bind fun t168 => (if t168 = 0 then (landdv_Check.l0 k a0 l1 l1 (l1.length : Int) 0) else (some t168))) = some r := h
 clear h
 replace H := bs_ H; obtain ⟨t168, A3, H⟩ := H
 by_cases c4 : t168 = 0
 ·rw [if_pos c4] at H
  have c4b0 := be_ c4
  have c4b1 := bg_ c4
  clear c4
  have H' := Aside0.mk H
  clear H
  go_enter Try.func17, Try.ntmps17
  go_wp2_with (first | ((with_reducible refine gate_callee (f := 49) rfl ?_); refine gl_ (some 9) Try.func49 #[.int .i64 a0] ?_; (with_reducible refine (ident_CheckId.calls k a0 t168 _ A3.out).mono ?_); rintro e w' ⟨rfl, ⟨nd, rfl⟩⟩; refine ⟨_, rfl, ?_⟩))
  go_loopg [15] k (fun kq v15 w' => ∃ (x15_1 : Int), v15 = .int .i64 x15_1 ∧ Aside0 (landdv_Check.l0 kq a0 l1 l1 (l1.length : Int) x15_1 = some r) ∧ Aside0 (kq ≤ k) ∧ Aside0 (Below w.heap.size w w'))
  case atStart => exact ⟨(0), fz, H', ⟨Nat.le_refl _⟩, ⟨fb⟩⟩
  case round =>
   clear H'
   (try clear c1); (try clear c4); (try clear c4b0); (try clear c4b1)
   obtain ⟨x15_1, rfl, HA, HK1, HB⟩ := hrel
   cases gk with
   | zero => exact absurd HA.out (by simp [landdv_Check.l0])
   | succ k1 =>
    have H := HA.out
    clear HA
    simp only [landdv_Check.l0] at H
    by_cases c5 : x15_1 < (l1.length : Int)
    ·rw [if_pos c5] at H
     have c5b0 := decide_eq_true c5
     clear c5
     by_cases c6 : 0 ≤ x15_1
     ·rw [if_pos c6] at H
      have c6b0 := decide_eq_true c6
      clear c6
      by_cases c7 : x15_1 < (l1.length : Int)
      ·rw [if_pos c7] at H
       have c7b0 := decide_eq_true c7
       clear c7
       have HC8 := Aside0.mk H
       clear H
       have p169 : 0 ≤ (x15_1 : Int) := of_decide_eq_true (by first | (with_reducible assumption) | assumption)
       have q169 : x15_1 < (l1.length : Int) := of_decide_eq_true (by first | (with_reducible assumption) | assumption)
       obtain ⟨ad169, A169_2, c169_2, e169, hx169_0, hx169_1, hx169_2, hl169_2, hi169_2⟩ := at_T54 HR1.out x15_1 p169 q169
       cases e169
       replace hx169_0 := pw_cell_below HB.out hx169_0
       replace hx169_1 := pw_cell_below HB.out hx169_1
       replace hx169_2 := pw_cell_below HB.out hx169_2
       have HR169_2 := Aside0.mk hi169_2
       have HC169_2 := Aside0.mk hl169_2
       clear hi169_2 hl169_2
       replace p169 := eq_true p169
       replace q169 := eq_true q169
       go_upto_region 7 with (first | ((with_reducible refine gate_dst (N := 7) rfl ?_); refine bx_ (N := 7) #[.int .i64 0, .float .f64 0, .slice none 0 0] 54 ⟨fb⟩ ?_; clear HB; intro gb170 w9 HB BK170 GE170; have GW170 := GE170; obtain ⟨hcz10_0, hcz10_1, hcz10_2, hfz10_0, hfz10_1, hfz10_2⟩ := cz3 BK170.out))
       (try simp only [Act.put, qa, qb, qc])
       go_cut [56] (fun v56 wc => ∃ (kq : Nat) (x56_7 : Bool), v56 = .bool x56_7 ∧ Aside0 (landdv_Check.j1 kq a0 l1 l1 (l1.length : Int) x15_1 x56_7 = some r) ∧ Aside0 (kq ≤ k1) ∧ Aside0 (wc.heap[gb170]? = some (.cells #[.int .i64 ((rd_T54 l1 x15_1).f0), .float .f64 ((rd_T54 l1 x15_1).f1), (.slice A169_2 ((rd_T54 l1 x15_1).f2).length c169_2)] 54 (0, 0))) ∧ Aside0 (Below w.heap.size w wc))
       case first =>
        have H := HC8.out
        clear HC8
        by_cases c11 : ((rd_T54 l1 x15_1).f0) = a0
        ·rw [if_pos c11] at H
         have c11b0 := be_ c11
         have c11b1 := bg_ c11
         clear c11
         (first | rw [c11b0] | (simp only [i64_w, i32_w]; rw [c11b0]) | skip)
         have H' := Aside0.mk H
         clear H
         try go_wp2
         have n0_ : Aside0 ((((w9.setCell ⟨gb170, 0, none⟩ (.int .i64 ((rd_T54 l1 x15_1).f0))).setCell ⟨gb170, 1, none⟩ (.float .f64 ((rd_T54 l1 x15_1).f1))).setCell ⟨gb170, 2, none⟩ (.slice A169_2 ((rd_T54 l1 x15_1).f2).length c169_2)).heap[gb170]? = some (.cells #[.int .i64 ((rd_T54 l1 x15_1).f0), .float .f64 ((rd_T54 l1 x15_1).f1), .slice A169_2 ((rd_T54 l1 x15_1).f2).length c169_2] 54 (0, 0))) := ⟨kp BK170.out⟩
         have n1_ : Aside0 (Below w.heap.size w (((w9.setCell ⟨gb170, 0, none⟩ (.int .i64 ((rd_T54 l1 x15_1).f0))).setCell ⟨gb170, 1, none⟩ (.float .f64 ((rd_T54 l1 x15_1).f1))).setCell ⟨gb170, 2, none⟩ (.slice A169_2 ((rd_T54 l1 x15_1).f2).length c169_2))) := ⟨fb1 GE170⟩
         (try clear BK170)
         (try clear HB)
         generalize (((w9.setCell ⟨gb170, 0, none⟩ (.int .i64 ((rd_T54 l1 x15_1).f0))).setCell ⟨gb170, 1, none⟩ (.float .f64 ((rd_T54 l1 x15_1).f1))).setCell ⟨gb170, 2, none⟩ (.slice A169_2 ((rd_T54 l1 x15_1).f2).length c169_2)) = w12 at n0_ n1_ ⊢
         have BK170 := n0_
         have HB := n1_
         clear n0_ n1_
         have n0_ := Aside0.mk (blk_drew BK170.out)
         have n1_ := Aside0.mk (below_drew1 HB.out)
         clear BK170
         clear HB
         have BK170 := n0_
         have HB := n1_
         clear n0_ n1_
         refine start_ (n := 37) (S := fun w' => w'.cell? ⟨gb170, 0, none⟩ = some (.int .i64 ((rd_T54 l1 x15_1).f0)) ∧ w'.cell? ⟨gb170, 1, none⟩ = some (.float .f64 ((rd_T54 l1 x15_1).f1)) ∧ w'.cell? ⟨gb170, 2, none⟩ = some (.slice A169_2 ((rd_T54 l1 x15_1).f2).length c169_2)) (ds := []) (bz 37 0) (by kernel_rfl) rfl rfl ⟨(blk_cell BK170.out 0).trans rfl, (blk_cell BK170.out 1).trans rfl, (blk_cell BK170.out 2).trans rfl⟩ (fun hHeld => ?_); refine with_tabW landdv_Check.tab7 landdv_Check.bits7 (fun HT_ HW_ => ?_)
         generalize w12.drew = w13 at BK170 HB hHeld ⊢
         refine pu2 0 (some 20) (bz 37 1) ?_
         refine pu2 2 (some 22) (bz 37 5) ?_
         refine tk2 1 (some 21) (bz 37 7) ?_
         refine pu2 3 (some 23) (bz 37 15) ?_
         refine pu2 4 (some 24) (bz 37 31) ?_
         refine pz2 5 (some 25) (bz 37 63) ?_
         refine pz2 6 (some 26) (bz 37 127) ?_
         refine pz2 7 (some 27) (bz 37 255) ?_
         refine pz2 8 (some 28) (bz 37 511) ?_
         refine pu2 9 (some 29) (bz 37 1023) ?_
         refine pu2 10 (some 30) (bz 37 2047) ?_
         refine pz2 11 (some 31) (bz 37 4095) ?_
         refine pz2 12 (some 32) (bz 37 8191) ?_
         refine pz2 13 (some 33) (bz 37 16383) ?_
         refine pz2 14 (some 34) (bz 37 32767) ?_
         refine pz2 15 (some 35) (bz 37 65535) ?_
         refine pz2 16 (some 36) (bz 37 131071) ?_
         refine pz2 17 (some 37) (bz 37 262143) ?_
         refine pz2 18 (some 38) (bz 37 524287) ?_
         refine pz2 19 (some 39) (bz 37 1048575) ?_
         refine pz2 20 (some 40) (bz 37 2097151) ?_
         refine pz2 21 (some 41) (bz 37 4194303) ?_
         refine pz2 22 (some 42) (bz 37 8388607) ?_
         refine pz2 23 (some 43) (bz 37 16777215) ?_
         refine pu2 24 (some 44) (bz 37 33554431) ?_
         refine pu2 25 (some 45) (bz 37 67108863) ?_
         refine pz2 26 (some 46) (bz 37 134217727) ?_
         refine pz2 27 (some 47) (bz 37 268435455) ?_
         refine pz2 28 (some 48) (bz 37 536870911) ?_
         refine pz2 29 (some 49) (bz 37 1073741823) ?_
         refine pu2 30 (some 50) (bz 37 2147483647) ?_
         refine pu2 31 (some 51) (bz 37 4294967295) ?_
         refine pz2 32 (some 52) (bz 37 8589934591) ?_
         refine pz2 33 (some 53) (bz 37 17179869183) ?_
         refine pz2 34 (some 54) (bz 37 34359738367) ?_
         refine pz2 35 (some 55) (bz 37 68719476735) ?_
         refine pu2 36 (some 56) (bz 37 137438953471) ?_
         refine done_ (done_of HT_.out (by kernel_rfl)) ?_
         try go_wp2
         go_meet
         case rel => exact ⟨_, (true), fz, H', ⟨by have := HK1.out; exact fl⟩, ⟨kp BK170.out⟩, ⟨fb1 GE170⟩⟩
        ·rw [if_neg c11] at H
         have c11b0 := bh_ c11
         have c11b1 := bi_ c11
         (first | rw [c11b0] | (simp only [i64_w, i32_w]; rw [c11b0]) | skip)
         replace H := bs_ H; obtain ⟨t171, A14, H⟩ := H
         by_cases c15 : t171 = 0
         ·rw [if_pos c15] at H
          have c15b0 := be_ c15
          have c15b1 := bg_ c15
          clear c15
          by_cases c16 : x15_1 > 0
          ·rw [if_pos c16] at H
           have c16b0 := decide_eq_true c16
           clear c16
           obtain ⟨ji17, hji17⟩ : ∃ j_ : Int, (wrap64 (x15_1 - 1)) = j_ := ⟨_, rfl⟩
           replace H : (if 0 ≤ (ji17) then (if (ji17) < (l1.length : Int) then (if ((rd_T54 l1 x15_1).f0) ≤ ((rd_T54 l1 (ji17)).f0) then (landdv_Check.j1 k1 a0 l1 l1 (l1.length : Int) x15_1 true) else ((metric_Weight.f ((rd_T54 l1 x15_1).f1)).bind fun t173 => (if t173 = 0 then ((landdv_list.f k1 ((rd_T54 l1 x15_1).f2)).bind fun t174 => (landdv_Check.j1 k1 a0 l1 l1 (l1.length : Int) x15_1 (!t174))) else (landdv_Check.j1 k1 a0 l1 l1 (l1.length : Int) x15_1 true)))) else (none)) else (none)) = some r := by first | (rw [hji17] at H; exact H) | (simp only [hji17] at H ⊢; exact H)
           (try rw [hji17] at A14)
           have hji17w : (IntKind.i64.wrap (x15_1 - 1)) = ji17 := (i64_w _).trans hji17
           by_cases c18 : 0 ≤ (ji17)
           ·rw [if_pos c18] at H
            have c18b0 := decide_eq_true c18
            clear c18
            by_cases c19 : (ji17) < (l1.length : Int)
            ·rw [if_pos c19] at H
             have c19b0 := decide_eq_true c19
             clear c19
             by_cases c20 : ((rd_T54 l1 x15_1).f0) ≤ ((rd_T54 l1 (ji17)).f0)
             ·rw [if_pos c20] at H
              have c20b0 := decide_eq_true c20
              clear c20
              have H' := Aside0.mk H
              clear H
              try go_wp2
              have n0_ : Aside0 ((((w9.setCell ⟨gb170, 0, none⟩ (.int .i64 ((rd_T54 l1 x15_1).f0))).setCell ⟨gb170, 1, none⟩ (.float .f64 ((rd_T54 l1 x15_1).f1))).setCell ⟨gb170, 2, none⟩ (.slice A169_2 ((rd_T54 l1 x15_1).f2).length c169_2)).heap[gb170]? = some (.cells #[.int .i64 ((rd_T54 l1 x15_1).f0), .float .f64 ((rd_T54 l1 x15_1).f1), .slice A169_2 ((rd_T54 l1 x15_1).f2).length c169_2] 54 (0, 0))) := ⟨kp BK170.out⟩
              have n1_ : Aside0 (Below w.heap.size w (((w9.setCell ⟨gb170, 0, none⟩ (.int .i64 ((rd_T54 l1 x15_1).f0))).setCell ⟨gb170, 1, none⟩ (.float .f64 ((rd_T54 l1 x15_1).f1))).setCell ⟨gb170, 2, none⟩ (.slice A169_2 ((rd_T54 l1 x15_1).f2).length c169_2))) := ⟨fb1 GE170⟩
              (try clear BK170)
              (try clear HB)
              generalize (((w9.setCell ⟨gb170, 0, none⟩ (.int .i64 ((rd_T54 l1 x15_1).f0))).setCell ⟨gb170, 1, none⟩ (.float .f64 ((rd_T54 l1 x15_1).f1))).setCell ⟨gb170, 2, none⟩ (.slice A169_2 ((rd_T54 l1 x15_1).f2).length c169_2)) = w21 at n0_ n1_ ⊢
              have BK170 := n0_
              have HB := n1_
              clear n0_ n1_
              have n0_ := Aside0.mk (blk_drew BK170.out)
              have n1_ := Aside0.mk (below_drew1 HB.out)
              clear BK170
              clear HB
              have BK170 := n0_
              have HB := n1_
              clear n0_ n1_
              have p172 : 0 ≤ ((ji17) : Int) := of_decide_eq_true (by first | (with_reducible assumption) | assumption)
              have q172 : (ji17) < (l1.length : Int) := of_decide_eq_true (by first | (with_reducible assumption) | assumption)
              obtain ⟨ad172, A172_2, c172_2, e172, hx172_0, hx172_1, hx172_2, hl172_2, hi172_2⟩ := at_T54 HR1.out (ji17) p172 q172
              have hw172_2 := hx172_2
              have hw172_1 := hx172_1
              have hw172_0 := hx172_0
              obtain rfl : ad169 = ad172 := (by injection e172)
              replace hx172_0 := pw_cell_below HB.out hx172_0
              replace hx172_1 := pw_cell_below HB.out hx172_1
              replace hx172_2 := pw_cell_below HB.out hx172_2
              have HR172_2 := Aside0.mk hi172_2
              have HC172_2 := Aside0.mk hl172_2
              clear hi172_2 hl172_2
              replace p172 := eq_true p172
              replace q172 := eq_true q172
              refine start_ (n := 37) (S := fun w' => w'.cell? ⟨gb170, 0, none⟩ = some (.int .i64 ((rd_T54 l1 x15_1).f0)) ∧ w'.cell? ⟨gb170, 1, none⟩ = some (.float .f64 ((rd_T54 l1 x15_1).f1)) ∧ w'.cell? ⟨gb170, 2, none⟩ = some (.slice A169_2 ((rd_T54 l1 x15_1).f2).length c169_2) ∧ w'.cell? (ad169.add (((ji17)).toNat * 3)) = some (.int .i64 ((rd_T54 l1 (ji17)).f0)) ∧ w'.cell? ⟨(ad169.add (((ji17)).toNat * 3)).block, (ad169.add (((ji17)).toNat * 3)).off + 1, none⟩ = some (.float .f64 ((rd_T54 l1 (ji17)).f1)) ∧ w'.cell? ⟨(ad169.add (((ji17)).toNat * 3)).block, (ad169.add (((ji17)).toNat * 3)).off + 2, none⟩ = some (.slice A172_2 ((rd_T54 l1 (ji17)).f2).length c172_2)) (ds := []) (bz 37 0) (by kernel_rfl) rfl rfl ⟨(blk_cell BK170.out 0).trans rfl, (blk_cell BK170.out 1).trans rfl, (blk_cell BK170.out 2).trans rfl, ((HB.out.cell (World.block_lt_of_cell? w _ hw172_0)).trans hw172_0), ((HB.out.cell (World.block_lt_of_cell? w _ hw172_1)).trans hw172_1), ((HB.out.cell (World.block_lt_of_cell? w _ hw172_2)).trans hw172_2)⟩ (fun hHeld => ?_); refine with_tabW landdv_Check.tab7 landdv_Check.bits7 (fun HT_ HW_ => ?_)
              generalize w21.drew = w22 at BK170 HB HR172_2 hx172_0 hx172_1 hx172_2 hHeld ⊢
              refine pu2 0 (some 20) (bz 37 1) ?_
              refine pu2 2 (some 22) (bz 37 5) ?_
              refine tk2 1 (some 21) (bz 37 7) ?_
              refine pu2 3 (some 23) (bz 37 15) ?_
              refine pu2 4 (some 24) (bz 37 31) ?_
              refine pu2 5 (some 25) (bz 37 63) ?_
              refine tk2 6 (some 26) (bz 37 127) ?_
              refine one_ (i := 7) (N := some 27) (bz 37 255) rfl rfl (one_of HT_.out (by kernel_rfl)) (by decide) (fun K hK => ?_)
              refine goes_ Try.func49 (by kernel_rfl) rfl #[.int .i64 ((rd_T54 l1 x15_1).f0)] (by rfl) rfl rfl (by (try simp only [List.map_toArray, List.map_cons, List.map_nil]); first | done | rfl | (simp only [List.length_drop, List.length_take]; rfl)) ?_
              with_reducible refine (ident_CheckId.calls k1 ((rd_T54 l1 x15_1).f0) t171 _ A14.out).mono ?_
              rintro e w' ⟨rfl, ⟨nd, rfl⟩⟩
              refine ⟨_, rfl, ?_⟩
              refine hK.out _ _ ⟨(blk_cell BK170.out 0).trans rfl, (blk_cell BK170.out 1).trans rfl, (blk_cell BK170.out 2).trans rfl, ((HB.out.cell (World.block_lt_of_cell? w _ hw172_0)).trans hw172_0), ((HB.out.cell (World.block_lt_of_cell? w _ hw172_1)).trans hw172_1), ((HB.out.cell (World.block_lt_of_cell? w _ hw172_2)).trans hw172_2)⟩ (fun hHeld => ?_)
              clear hK K
              refine norm_ (a' := ?_) ?_ ?_; rotate_left; show Act.put _ (some 27) _ = _; simp only [Act.put, qa, qb, qc, i64_w, i32_w]; rfl
              refine pu2 8 (some 28) (bz 37 511) ?_
              refine pu2 9 (some 29) (bz 37 1023) ?_
              refine pu2 10 (some 30) (bz 37 2047) ?_
              refine pu2 11 (some 31) (bz 37 4095) ?_
              refine pu2 12 (some 32) (bz 37 8191) ?_
              refine pu2 13 (some 33) (bz 37 16383) ?_
              refine pu2 14 (some 34) (bz 37 32767) ?_
              refine pu2 16 (some 36) (bz 37 98303) ?_
              refine pu2 17 (some 37) (bz 37 229375) ?_
              refine pu2 18 (some 38) (bz 37 491519) ?_
              refine pu2 19 (some 39) (bz 37 1015807) ?_
              refine pu2 20 (some 40) (bz 37 2064383) ?_
              refine tk2 15 (some 35) (bz 37 2097151) ?_
              refine tk2 21 (some 41) (bz 37 4194303) ?_
              refine pu2 22 (some 42) (bz 37 8388607) ?_
              refine pu2 23 (some 43) (bz 37 16777215) ?_
              refine pu2 24 (some 44) (bz 37 33554431) ?_
              refine pu2 25 (some 45) (bz 37 67108863) ?_
              refine pz2 26 (some 46) (bz 37 134217727) ?_
              refine pz2 27 (some 47) (bz 37 268435455) ?_
              refine pz2 28 (some 48) (bz 37 536870911) ?_
              refine pz2 29 (some 49) (bz 37 1073741823) ?_
              refine pu2 30 (some 50) (bz 37 2147483647) ?_
              refine pu2 31 (some 51) (bz 37 4294967295) ?_
              refine pz2 32 (some 52) (bz 37 8589934591) ?_
              refine pz2 33 (some 53) (bz 37 17179869183) ?_
              refine pz2 34 (some 54) (bz 37 34359738367) ?_
              refine pz2 35 (some 55) (bz 37 68719476735) ?_
              refine pu2 36 (some 56) (bz 37 137438953471) ?_
              refine done_ (done_of HT_.out (by kernel_rfl)) ?_
              try go_wp2
              go_meet
              case rel => exact ⟨_, (true), fz, H', ⟨by have := HK1.out; exact fl⟩, ⟨kp BK170.out⟩, ⟨fb1 GE170⟩⟩
             ·rw [if_neg c20] at H
              have c20b0 := decide_eq_false c20
              clear c20
              replace H := bs_ H; obtain ⟨t173, A23, H⟩ := H
              by_cases c24 : t173 = 0
              ·rw [if_pos c24] at H
               have c24b0 := be_ c24
               have c24b1 := bg_ c24
               clear c24
               replace H := bs_ H; obtain ⟨t174, A25, H⟩ := H
               have H' := Aside0.mk H
               clear H
               try go_wp2
               have n0_ : Aside0 ((((w9.setCell ⟨gb170, 0, none⟩ (.int .i64 ((rd_T54 l1 x15_1).f0))).setCell ⟨gb170, 1, none⟩ (.float .f64 ((rd_T54 l1 x15_1).f1))).setCell ⟨gb170, 2, none⟩ (.slice A169_2 ((rd_T54 l1 x15_1).f2).length c169_2)).heap[gb170]? = some (.cells #[.int .i64 ((rd_T54 l1 x15_1).f0), .float .f64 ((rd_T54 l1 x15_1).f1), .slice A169_2 ((rd_T54 l1 x15_1).f2).length c169_2] 54 (0, 0))) := ⟨kp BK170.out⟩
               have n1_ : Aside0 (Below w.heap.size w (((w9.setCell ⟨gb170, 0, none⟩ (.int .i64 ((rd_T54 l1 x15_1).f0))).setCell ⟨gb170, 1, none⟩ (.float .f64 ((rd_T54 l1 x15_1).f1))).setCell ⟨gb170, 2, none⟩ (.slice A169_2 ((rd_T54 l1 x15_1).f2).length c169_2))) := ⟨fb1 GE170⟩
               (try clear BK170)
               (try clear HB)
               generalize (((w9.setCell ⟨gb170, 0, none⟩ (.int .i64 ((rd_T54 l1 x15_1).f0))).setCell ⟨gb170, 1, none⟩ (.float .f64 ((rd_T54 l1 x15_1).f1))).setCell ⟨gb170, 2, none⟩ (.slice A169_2 ((rd_T54 l1 x15_1).f2).length c169_2)) = w26 at n0_ n1_ ⊢
               have BK170 := n0_
               have HB := n1_
               clear n0_ n1_
               have n0_ := Aside0.mk (blk_drew BK170.out)
               have n1_ := Aside0.mk (below_drew1 HB.out)
               clear BK170
               clear HB
               have BK170 := n0_
               have HB := n1_
               clear n0_ n1_
               have p172 : 0 ≤ ((ji17) : Int) := of_decide_eq_true (by first | (with_reducible assumption) | assumption)
               have q172 : (ji17) < (l1.length : Int) := of_decide_eq_true (by first | (with_reducible assumption) | assumption)
               obtain ⟨ad172, A172_2, c172_2, e172, hx172_0, hx172_1, hx172_2, hl172_2, hi172_2⟩ := at_T54 HR1.out (ji17) p172 q172
               have hw172_2 := hx172_2
               have hw172_1 := hx172_1
               have hw172_0 := hx172_0
               obtain rfl : ad169 = ad172 := (by injection e172)
               replace hx172_0 := pw_cell_below HB.out hx172_0
               replace hx172_1 := pw_cell_below HB.out hx172_1
               replace hx172_2 := pw_cell_below HB.out hx172_2
               have HR172_2 := Aside0.mk hi172_2
               have HC172_2 := Aside0.mk hl172_2
               clear hi172_2 hl172_2
               replace p172 := eq_true p172
               replace q172 := eq_true q172
               refine start_ (n := 37) (S := fun w' => w'.cell? ⟨gb170, 0, none⟩ = some (.int .i64 ((rd_T54 l1 x15_1).f0)) ∧ w'.cell? ⟨gb170, 1, none⟩ = some (.float .f64 ((rd_T54 l1 x15_1).f1)) ∧ w'.cell? ⟨gb170, 2, none⟩ = some (.slice A169_2 ((rd_T54 l1 x15_1).f2).length c169_2) ∧ w'.cell? (ad169.add (((ji17)).toNat * 3)) = some (.int .i64 ((rd_T54 l1 (ji17)).f0)) ∧ w'.cell? ⟨(ad169.add (((ji17)).toNat * 3)).block, (ad169.add (((ji17)).toNat * 3)).off + 1, none⟩ = some (.float .f64 ((rd_T54 l1 (ji17)).f1)) ∧ w'.cell? ⟨(ad169.add (((ji17)).toNat * 3)).block, (ad169.add (((ji17)).toNat * 3)).off + 2, none⟩ = some (.slice A172_2 ((rd_T54 l1 (ji17)).f2).length c172_2)) (ds := []) (bz 37 0) (by kernel_rfl) rfl rfl ⟨(blk_cell BK170.out 0).trans rfl, (blk_cell BK170.out 1).trans rfl, (blk_cell BK170.out 2).trans rfl, ((HB.out.cell (World.block_lt_of_cell? w _ hw172_0)).trans hw172_0), ((HB.out.cell (World.block_lt_of_cell? w _ hw172_1)).trans hw172_1), ((HB.out.cell (World.block_lt_of_cell? w _ hw172_2)).trans hw172_2)⟩ (fun hHeld => ?_); refine with_tabW landdv_Check.tab7 landdv_Check.bits7 (fun HT_ HW_ => ?_)
               generalize w26.drew = w27 at BK170 HB HR172_2 hx172_0 hx172_1 hx172_2 hHeld ⊢
               refine pu2 0 (some 20) (bz 37 1) ?_
               refine pu2 2 (some 22) (bz 37 5) ?_
               refine tk2 1 (some 21) (bz 37 7) ?_
               refine pu2 3 (some 23) (bz 37 15) ?_
               refine pu2 4 (some 24) (bz 37 31) ?_
               refine pu2 5 (some 25) (bz 37 63) ?_
               refine tk2 6 (some 26) (bz 37 127) ?_
               refine one_ (i := 7) (N := some 27) (bz 37 255) rfl rfl (one_of HT_.out (by kernel_rfl)) (by decide) (fun K hK => ?_)
               refine goes_ Try.func49 (by kernel_rfl) rfl #[.int .i64 ((rd_T54 l1 x15_1).f0)] (by rfl) rfl rfl (by (try simp only [List.map_toArray, List.map_cons, List.map_nil]); first | done | rfl | (simp only [List.length_drop, List.length_take]; rfl)) ?_
               with_reducible refine (ident_CheckId.calls k1 ((rd_T54 l1 x15_1).f0) t171 _ A14.out).mono ?_
               rintro e w' ⟨rfl, ⟨nd, rfl⟩⟩
               refine ⟨_, rfl, ?_⟩
               refine hK.out _ _ ⟨(blk_cell BK170.out 0).trans rfl, (blk_cell BK170.out 1).trans rfl, (blk_cell BK170.out 2).trans rfl, ((HB.out.cell (World.block_lt_of_cell? w _ hw172_0)).trans hw172_0), ((HB.out.cell (World.block_lt_of_cell? w _ hw172_1)).trans hw172_1), ((HB.out.cell (World.block_lt_of_cell? w _ hw172_2)).trans hw172_2)⟩ (fun hHeld => ?_)
               clear hK K
               refine norm_ (a' := ?_) ?_ ?_; rotate_left; show Act.put _ (some 27) _ = _; simp only [Act.put, qa, qb, qc, i64_w, i32_w]; rfl
               refine pu2 8 (some 28) (bz 37 511) ?_
               refine pu2 9 (some 29) (bz 37 1023) ?_
               refine pu2 10 (some 30) (bz 37 2047) ?_
               refine pu2 11 (some 31) (bz 37 4095) ?_
               refine pu2 12 (some 32) (bz 37 8191) ?_
               refine pu2 13 (some 33) (bz 37 16383) ?_
               refine pu2 14 (some 34) (bz 37 32767) ?_
               refine pu2 16 (some 36) (bz 37 98303) ?_
               refine pu2 17 (some 37) (bz 37 229375) ?_
               refine pu2 18 (some 38) (bz 37 491519) ?_
               refine pu2 19 (some 39) (bz 37 1015807) ?_
               refine pu2 20 (some 40) (bz 37 2064383) ?_
               refine tk2 15 (some 35) (bz 37 2097151) ?_
               refine tk2 21 (some 41) (bz 37 4194303) ?_
               refine pu2 22 (some 42) (bz 37 8388607) ?_
               refine pu2 23 (some 43) (bz 37 16777215) ?_
               refine pu2 24 (some 44) (bz 37 33554431) ?_
               refine pu2 25 (some 45) (bz 37 67108863) ?_
               refine pu2 26 (some 46) (bz 37 134217727) ?_
               refine tk2 27 (some 47) (bz 37 268435455) ?_
               refine one_ (i := 28) (N := some 48) (bz 37 536870911) rfl rfl (one_of HT_.out (by kernel_rfl)) (by decide) (fun K hK => ?_)
               refine goes_ Try.func50 (by kernel_rfl) rfl #[.float .f64 ((rd_T54 l1 x15_1).f1)] (by rfl) rfl rfl (by (try simp only [List.map_toArray, List.map_cons, List.map_nil]); first | done | rfl | (simp only [List.length_drop, List.length_take]; rfl)) ?_
               with_reducible refine (metric_Weight.calls ((rd_T54 l1 x15_1).f1) t173 _ A23.out).mono ?_
               rintro e w' ⟨rfl, ⟨nd, rfl⟩⟩
               refine ⟨_, rfl, ?_⟩
               refine hK.out _ _ ⟨(blk_cell BK170.out 0).trans rfl, (blk_cell BK170.out 1).trans rfl, (blk_cell BK170.out 2).trans rfl, ((HB.out.cell (World.block_lt_of_cell? w _ hw172_0)).trans hw172_0), ((HB.out.cell (World.block_lt_of_cell? w _ hw172_1)).trans hw172_1), ((HB.out.cell (World.block_lt_of_cell? w _ hw172_2)).trans hw172_2)⟩ (fun hHeld => ?_)
               clear hK K
               refine norm_ (a' := ?_) ?_ ?_; rotate_left; show Act.put _ (some 48) _ = _; simp only [Act.put, qa, qb, qc, i64_w, i32_w]; rfl
               refine pu2 29 (some 49) (bz 37 1073741823) ?_
               refine pu2 30 (some 50) (bz 37 2147483647) ?_
               refine pu2 31 (some 51) (bz 37 4294967295) ?_
               refine pu2 32 (some 52) (bz 37 8589934591) ?_
               refine tk2 33 (some 53) (bz 37 17179869183) ?_
               refine one_ (i := 34) (N := some 54) (bz 37 34359738367) rfl rfl (one_of HT_.out (by kernel_rfl)) (by decide) (fun K hK => ?_)
               refine goes_ Try.func51 (by kernel_rfl) rfl #[.slice A169_2 ((rd_T54 l1 x15_1).f2).length c169_2] (by rfl) rfl rfl (by (try simp only [List.map_toArray, List.map_cons, List.map_nil]); first | done | rfl | (simp only [List.length_drop, List.length_take]; rfl)) ?_
               with_reducible refine (landdv_list.calls k1 _ _ ((rd_T54 l1 x15_1).f2) t174 _ ?side1 ?side2 A25.out).mono ?_
               (case side1 => repeat (first | exact (Kd.C_below HR169_2.out (fb1 GE170)) | (with_reducible refine Kd.C_alloc ?_ _) | (with_reducible refine Kd.C_drewN ?_ _) | (with_reducible refine Kd.C_drew ?_)))
               (case side2 => exact HC169_2.out)
               rintro e w28 ⟨rfl, hb⟩
               refine ⟨_, rfl, ?_⟩
               have n0_ := Aside0.mk (blk_below (g := gb170) (o := .cells #[.int .i64 ((rd_T54 l1 x15_1).f0), .float .f64 ((rd_T54 l1 x15_1).f1), .slice A169_2 ((rd_T54 l1 x15_1).f2).length c169_2] 54 (0, 0)) (kp BK170.out) hb)
               have n1_ := Aside0.mk (below_step (fb1 GE170) hb)
               clear BK170
               clear HB
               have BK170 := n0_
               have HB := n1_
               clear n0_ n1_
               (try clear hb)
               refine hK.out _ _ ⟨(blk_cell BK170.out 0).trans rfl, (blk_cell BK170.out 1).trans rfl, (blk_cell BK170.out 2).trans rfl, ((HB.out.cell (World.block_lt_of_cell? w _ hw172_0)).trans hw172_0), ((HB.out.cell (World.block_lt_of_cell? w _ hw172_1)).trans hw172_1), ((HB.out.cell (World.block_lt_of_cell? w _ hw172_2)).trans hw172_2)⟩ (fun hHeld => ?_)
               clear hK K
               refine norm_ (a' := ?_) ?_ ?_; rotate_left; show Act.put _ (some 54) _ = _; simp only [Act.put, qa, qb, qc, i64_w, i32_w]; rfl
               refine pu2 35 (some 55) (bz 37 68719476735) ?_
               refine pu2 36 (some 56) (bz 37 137438953471) ?_
               refine done_ (done_of HT_.out (by kernel_rfl)) ?_
               try go_wp2
               go_meet
               case rel => exact ⟨_, (!t174), fz, H', ⟨by have := HK1.out; exact fl⟩, ⟨kp BK170.out⟩, ⟨fb1 GE170⟩⟩
              ·rw [if_neg c24] at H
               have c24b0 := bh_ c24
               have c24b1 := bi_ c24
               have H' := Aside0.mk H
               clear H
               try go_wp2
               have n0_ : Aside0 ((((w9.setCell ⟨gb170, 0, none⟩ (.int .i64 ((rd_T54 l1 x15_1).f0))).setCell ⟨gb170, 1, none⟩ (.float .f64 ((rd_T54 l1 x15_1).f1))).setCell ⟨gb170, 2, none⟩ (.slice A169_2 ((rd_T54 l1 x15_1).f2).length c169_2)).heap[gb170]? = some (.cells #[.int .i64 ((rd_T54 l1 x15_1).f0), .float .f64 ((rd_T54 l1 x15_1).f1), .slice A169_2 ((rd_T54 l1 x15_1).f2).length c169_2] 54 (0, 0))) := ⟨kp BK170.out⟩
               have n1_ : Aside0 (Below w.heap.size w (((w9.setCell ⟨gb170, 0, none⟩ (.int .i64 ((rd_T54 l1 x15_1).f0))).setCell ⟨gb170, 1, none⟩ (.float .f64 ((rd_T54 l1 x15_1).f1))).setCell ⟨gb170, 2, none⟩ (.slice A169_2 ((rd_T54 l1 x15_1).f2).length c169_2))) := ⟨fb1 GE170⟩
               (try clear BK170)
               (try clear HB)
               generalize (((w9.setCell ⟨gb170, 0, none⟩ (.int .i64 ((rd_T54 l1 x15_1).f0))).setCell ⟨gb170, 1, none⟩ (.float .f64 ((rd_T54 l1 x15_1).f1))).setCell ⟨gb170, 2, none⟩ (.slice A169_2 ((rd_T54 l1 x15_1).f2).length c169_2)) = w29 at n0_ n1_ ⊢
               have BK170 := n0_
               have HB := n1_
               clear n0_ n1_
               have n0_ := Aside0.mk (blk_drew BK170.out)
               have n1_ := Aside0.mk (below_drew1 HB.out)
               clear BK170
               clear HB
               have BK170 := n0_
               have HB := n1_
               clear n0_ n1_
               have p172 : 0 ≤ ((ji17) : Int) := of_decide_eq_true (by first | (with_reducible assumption) | assumption)
               have q172 : (ji17) < (l1.length : Int) := of_decide_eq_true (by first | (with_reducible assumption) | assumption)
               obtain ⟨ad172, A172_2, c172_2, e172, hx172_0, hx172_1, hx172_2, hl172_2, hi172_2⟩ := at_T54 HR1.out (ji17) p172 q172
               have hw172_2 := hx172_2
               have hw172_1 := hx172_1
               have hw172_0 := hx172_0
               obtain rfl : ad169 = ad172 := (by injection e172)
               replace hx172_0 := pw_cell_below HB.out hx172_0
               replace hx172_1 := pw_cell_below HB.out hx172_1
               replace hx172_2 := pw_cell_below HB.out hx172_2
               have HR172_2 := Aside0.mk hi172_2
               have HC172_2 := Aside0.mk hl172_2
               clear hi172_2 hl172_2
               replace p172 := eq_true p172
               replace q172 := eq_true q172
               refine start_ (n := 37) (S := fun w' => w'.cell? ⟨gb170, 0, none⟩ = some (.int .i64 ((rd_T54 l1 x15_1).f0)) ∧ w'.cell? ⟨gb170, 1, none⟩ = some (.float .f64 ((rd_T54 l1 x15_1).f1)) ∧ w'.cell? ⟨gb170, 2, none⟩ = some (.slice A169_2 ((rd_T54 l1 x15_1).f2).length c169_2) ∧ w'.cell? (ad169.add (((ji17)).toNat * 3)) = some (.int .i64 ((rd_T54 l1 (ji17)).f0)) ∧ w'.cell? ⟨(ad169.add (((ji17)).toNat * 3)).block, (ad169.add (((ji17)).toNat * 3)).off + 1, none⟩ = some (.float .f64 ((rd_T54 l1 (ji17)).f1)) ∧ w'.cell? ⟨(ad169.add (((ji17)).toNat * 3)).block, (ad169.add (((ji17)).toNat * 3)).off + 2, none⟩ = some (.slice A172_2 ((rd_T54 l1 (ji17)).f2).length c172_2)) (ds := []) (bz 37 0) (by kernel_rfl) rfl rfl ⟨(blk_cell BK170.out 0).trans rfl, (blk_cell BK170.out 1).trans rfl, (blk_cell BK170.out 2).trans rfl, ((HB.out.cell (World.block_lt_of_cell? w _ hw172_0)).trans hw172_0), ((HB.out.cell (World.block_lt_of_cell? w _ hw172_1)).trans hw172_1), ((HB.out.cell (World.block_lt_of_cell? w _ hw172_2)).trans hw172_2)⟩ (fun hHeld => ?_); refine with_tabW landdv_Check.tab7 landdv_Check.bits7 (fun HT_ HW_ => ?_)
               generalize w29.drew = w30 at BK170 HB HR172_2 hx172_0 hx172_1 hx172_2 hHeld ⊢
               refine pu2 0 (some 20) (bz 37 1) ?_
               refine pu2 2 (some 22) (bz 37 5) ?_
               refine tk2 1 (some 21) (bz 37 7) ?_
               refine pu2 3 (some 23) (bz 37 15) ?_
               refine pu2 4 (some 24) (bz 37 31) ?_
               refine pu2 5 (some 25) (bz 37 63) ?_
               refine tk2 6 (some 26) (bz 37 127) ?_
               refine one_ (i := 7) (N := some 27) (bz 37 255) rfl rfl (one_of HT_.out (by kernel_rfl)) (by decide) (fun K hK => ?_)
               refine goes_ Try.func49 (by kernel_rfl) rfl #[.int .i64 ((rd_T54 l1 x15_1).f0)] (by rfl) rfl rfl (by (try simp only [List.map_toArray, List.map_cons, List.map_nil]); first | done | rfl | (simp only [List.length_drop, List.length_take]; rfl)) ?_
               with_reducible refine (ident_CheckId.calls k1 ((rd_T54 l1 x15_1).f0) t171 _ A14.out).mono ?_
               rintro e w' ⟨rfl, ⟨nd, rfl⟩⟩
               refine ⟨_, rfl, ?_⟩
               refine hK.out _ _ ⟨(blk_cell BK170.out 0).trans rfl, (blk_cell BK170.out 1).trans rfl, (blk_cell BK170.out 2).trans rfl, ((HB.out.cell (World.block_lt_of_cell? w _ hw172_0)).trans hw172_0), ((HB.out.cell (World.block_lt_of_cell? w _ hw172_1)).trans hw172_1), ((HB.out.cell (World.block_lt_of_cell? w _ hw172_2)).trans hw172_2)⟩ (fun hHeld => ?_)
               clear hK K
               refine norm_ (a' := ?_) ?_ ?_; rotate_left; show Act.put _ (some 27) _ = _; simp only [Act.put, qa, qb, qc, i64_w, i32_w]; rfl
               refine pu2 8 (some 28) (bz 37 511) ?_
               refine pu2 9 (some 29) (bz 37 1023) ?_
               refine pu2 10 (some 30) (bz 37 2047) ?_
               refine pu2 11 (some 31) (bz 37 4095) ?_
               refine pu2 12 (some 32) (bz 37 8191) ?_
               refine pu2 13 (some 33) (bz 37 16383) ?_
               refine pu2 14 (some 34) (bz 37 32767) ?_
               refine pu2 16 (some 36) (bz 37 98303) ?_
               refine pu2 17 (some 37) (bz 37 229375) ?_
               refine pu2 18 (some 38) (bz 37 491519) ?_
               refine pu2 19 (some 39) (bz 37 1015807) ?_
               refine pu2 20 (some 40) (bz 37 2064383) ?_
               refine tk2 15 (some 35) (bz 37 2097151) ?_
               refine tk2 21 (some 41) (bz 37 4194303) ?_
               refine pu2 22 (some 42) (bz 37 8388607) ?_
               refine pu2 23 (some 43) (bz 37 16777215) ?_
               refine pu2 24 (some 44) (bz 37 33554431) ?_
               refine pu2 25 (some 45) (bz 37 67108863) ?_
               refine pu2 26 (some 46) (bz 37 134217727) ?_
               refine tk2 27 (some 47) (bz 37 268435455) ?_
               refine one_ (i := 28) (N := some 48) (bz 37 536870911) rfl rfl (one_of HT_.out (by kernel_rfl)) (by decide) (fun K hK => ?_)
               refine goes_ Try.func50 (by kernel_rfl) rfl #[.float .f64 ((rd_T54 l1 x15_1).f1)] (by rfl) rfl rfl (by (try simp only [List.map_toArray, List.map_cons, List.map_nil]); first | done | rfl | (simp only [List.length_drop, List.length_take]; rfl)) ?_
               with_reducible refine (metric_Weight.calls ((rd_T54 l1 x15_1).f1) t173 _ A23.out).mono ?_
               rintro e w' ⟨rfl, ⟨nd, rfl⟩⟩
               refine ⟨_, rfl, ?_⟩
               refine hK.out _ _ ⟨(blk_cell BK170.out 0).trans rfl, (blk_cell BK170.out 1).trans rfl, (blk_cell BK170.out 2).trans rfl, ((HB.out.cell (World.block_lt_of_cell? w _ hw172_0)).trans hw172_0), ((HB.out.cell (World.block_lt_of_cell? w _ hw172_1)).trans hw172_1), ((HB.out.cell (World.block_lt_of_cell? w _ hw172_2)).trans hw172_2)⟩ (fun hHeld => ?_)
               clear hK K
               refine norm_ (a' := ?_) ?_ ?_; rotate_left; show Act.put _ (some 48) _ = _; simp only [Act.put, qa, qb, qc, i64_w, i32_w]; rfl
               refine pu2 29 (some 49) (bz 37 1073741823) ?_
               refine pu2 30 (some 50) (bz 37 2147483647) ?_
               refine pu2 31 (some 51) (bz 37 4294967295) ?_
               refine pz2 32 (some 52) (bz 37 8589934591) ?_
               refine pz2 33 (some 53) (bz 37 17179869183) ?_
               refine pz2 34 (some 54) (bz 37 34359738367) ?_
               refine pz2 35 (some 55) (bz 37 68719476735) ?_
               refine pu2 36 (some 56) (bz 37 137438953471) ?_
               refine done_ (done_of HT_.out (by kernel_rfl)) ?_
               try go_wp2
               go_meet
               case rel => exact ⟨_, (true), fz, H', ⟨by have := HK1.out; exact fl⟩, ⟨kp BK170.out⟩, ⟨fb1 GE170⟩⟩
            ·rw [if_neg c19] at H
             exact absurd H (by simp)
           ·rw [if_neg c18] at H
            exact absurd H (by simp)
          ·rw [if_neg c16] at H
           have c16b0 := decide_eq_false c16
           clear c16
           replace H := bs_ H; obtain ⟨t175, A31, H⟩ := H
           by_cases c32 : t175 = 0
           ·rw [if_pos c32] at H
            have c32b0 := be_ c32
            have c32b1 := bg_ c32
            clear c32
            replace H := bs_ H; obtain ⟨t176, A33, H⟩ := H
            have H' := Aside0.mk H
            clear H
            try go_wp2
            have n0_ : Aside0 ((((w9.setCell ⟨gb170, 0, none⟩ (.int .i64 ((rd_T54 l1 x15_1).f0))).setCell ⟨gb170, 1, none⟩ (.float .f64 ((rd_T54 l1 x15_1).f1))).setCell ⟨gb170, 2, none⟩ (.slice A169_2 ((rd_T54 l1 x15_1).f2).length c169_2)).heap[gb170]? = some (.cells #[.int .i64 ((rd_T54 l1 x15_1).f0), .float .f64 ((rd_T54 l1 x15_1).f1), .slice A169_2 ((rd_T54 l1 x15_1).f2).length c169_2] 54 (0, 0))) := ⟨kp BK170.out⟩
            have n1_ : Aside0 (Below w.heap.size w (((w9.setCell ⟨gb170, 0, none⟩ (.int .i64 ((rd_T54 l1 x15_1).f0))).setCell ⟨gb170, 1, none⟩ (.float .f64 ((rd_T54 l1 x15_1).f1))).setCell ⟨gb170, 2, none⟩ (.slice A169_2 ((rd_T54 l1 x15_1).f2).length c169_2))) := ⟨fb1 GE170⟩
            (try clear BK170)
            (try clear HB)
            generalize (((w9.setCell ⟨gb170, 0, none⟩ (.int .i64 ((rd_T54 l1 x15_1).f0))).setCell ⟨gb170, 1, none⟩ (.float .f64 ((rd_T54 l1 x15_1).f1))).setCell ⟨gb170, 2, none⟩ (.slice A169_2 ((rd_T54 l1 x15_1).f2).length c169_2)) = w34 at n0_ n1_ ⊢
            have BK170 := n0_
            have HB := n1_
            clear n0_ n1_
            have n0_ := Aside0.mk (blk_drew BK170.out)
            have n1_ := Aside0.mk (below_drew1 HB.out)
            clear BK170
            clear HB
            have BK170 := n0_
            have HB := n1_
            clear n0_ n1_
            refine start_ (n := 37) (S := fun w' => w'.cell? ⟨gb170, 0, none⟩ = some (.int .i64 ((rd_T54 l1 x15_1).f0)) ∧ w'.cell? ⟨gb170, 1, none⟩ = some (.float .f64 ((rd_T54 l1 x15_1).f1)) ∧ w'.cell? ⟨gb170, 2, none⟩ = some (.slice A169_2 ((rd_T54 l1 x15_1).f2).length c169_2)) (ds := []) (bz 37 0) (by kernel_rfl) rfl rfl ⟨(blk_cell BK170.out 0).trans rfl, (blk_cell BK170.out 1).trans rfl, (blk_cell BK170.out 2).trans rfl⟩ (fun hHeld => ?_); refine with_tabW landdv_Check.tab7 landdv_Check.bits7 (fun HT_ HW_ => ?_)
            generalize w34.drew = w35 at BK170 HB hHeld ⊢
            refine pu2 0 (some 20) (bz 37 1) ?_
            refine pu2 2 (some 22) (bz 37 5) ?_
            refine tk2 1 (some 21) (bz 37 7) ?_
            refine pu2 3 (some 23) (bz 37 15) ?_
            refine pu2 4 (some 24) (bz 37 31) ?_
            refine pu2 5 (some 25) (bz 37 63) ?_
            refine tk2 6 (some 26) (bz 37 127) ?_
            refine one_ (i := 7) (N := some 27) (bz 37 255) rfl rfl (one_of HT_.out (by kernel_rfl)) (by decide) (fun K hK => ?_)
            refine goes_ Try.func49 (by kernel_rfl) rfl #[.int .i64 ((rd_T54 l1 x15_1).f0)] (by rfl) rfl rfl (by (try simp only [List.map_toArray, List.map_cons, List.map_nil]); first | done | rfl | (simp only [List.length_drop, List.length_take]; rfl)) ?_
            with_reducible refine (ident_CheckId.calls k1 ((rd_T54 l1 x15_1).f0) t171 _ A14.out).mono ?_
            rintro e w' ⟨rfl, ⟨nd, rfl⟩⟩
            refine ⟨_, rfl, ?_⟩
            refine hK.out _ _ ⟨(blk_cell BK170.out 0).trans rfl, (blk_cell BK170.out 1).trans rfl, (blk_cell BK170.out 2).trans rfl⟩ (fun hHeld => ?_)
            clear hK K
            refine norm_ (a' := ?_) ?_ ?_; rotate_left; show Act.put _ (some 27) _ = _; simp only [Act.put, qa, qb, qc, i64_w, i32_w]; rfl
            refine pu2 8 (some 28) (bz 37 511) ?_
            refine pu2 9 (some 29) (bz 37 1023) ?_
            refine pu2 10 (some 30) (bz 37 2047) ?_
            refine pu2 11 (some 31) (bz 37 4095) ?_
            refine pu2 12 (some 32) (bz 37 8191) ?_
            refine pu2 13 (some 33) (bz 37 16383) ?_
            refine pz2 14 (some 34) (bz 37 32767) ?_
            refine pz2 15 (some 35) (bz 37 65535) ?_
            refine pz2 16 (some 36) (bz 37 131071) ?_
            refine pz2 17 (some 37) (bz 37 262143) ?_
            refine pz2 18 (some 38) (bz 37 524287) ?_
            refine pz2 19 (some 39) (bz 37 1048575) ?_
            refine pz2 20 (some 40) (bz 37 2097151) ?_
            refine pz2 21 (some 41) (bz 37 4194303) ?_
            refine pz2 22 (some 42) (bz 37 8388607) ?_
            refine pu2 23 (some 43) (bz 37 16777215) ?_
            refine pu2 24 (some 44) (bz 37 33554431) ?_
            refine pu2 25 (some 45) (bz 37 67108863) ?_
            refine pu2 26 (some 46) (bz 37 134217727) ?_
            refine tk2 27 (some 47) (bz 37 268435455) ?_
            refine one_ (i := 28) (N := some 48) (bz 37 536870911) rfl rfl (one_of HT_.out (by kernel_rfl)) (by decide) (fun K hK => ?_)
            refine goes_ Try.func50 (by kernel_rfl) rfl #[.float .f64 ((rd_T54 l1 x15_1).f1)] (by rfl) rfl rfl (by (try simp only [List.map_toArray, List.map_cons, List.map_nil]); first | done | rfl | (simp only [List.length_drop, List.length_take]; rfl)) ?_
            with_reducible refine (metric_Weight.calls ((rd_T54 l1 x15_1).f1) t175 _ A31.out).mono ?_
            rintro e w' ⟨rfl, ⟨nd, rfl⟩⟩
            refine ⟨_, rfl, ?_⟩
            refine hK.out _ _ ⟨(blk_cell BK170.out 0).trans rfl, (blk_cell BK170.out 1).trans rfl, (blk_cell BK170.out 2).trans rfl⟩ (fun hHeld => ?_)
            clear hK K
            refine norm_ (a' := ?_) ?_ ?_; rotate_left; show Act.put _ (some 48) _ = _; simp only [Act.put, qa, qb, qc, i64_w, i32_w]; rfl
            refine pu2 29 (some 49) (bz 37 1073741823) ?_
            refine pu2 30 (some 50) (bz 37 2147483647) ?_
            refine pu2 31 (some 51) (bz 37 4294967295) ?_
            refine pu2 32 (some 52) (bz 37 8589934591) ?_
            refine tk2 33 (some 53) (bz 37 17179869183) ?_
            refine one_ (i := 34) (N := some 54) (bz 37 34359738367) rfl rfl (one_of HT_.out (by kernel_rfl)) (by decide) (fun K hK => ?_)
            refine goes_ Try.func51 (by kernel_rfl) rfl #[.slice A169_2 ((rd_T54 l1 x15_1).f2).length c169_2] (by rfl) rfl rfl (by (try simp only [List.map_toArray, List.map_cons, List.map_nil]); first | done | rfl | (simp only [List.length_drop, List.length_take]; rfl)) ?_
            with_reducible refine (landdv_list.calls k1 _ _ ((rd_T54 l1 x15_1).f2) t176 _ ?side1 ?side2 A33.out).mono ?_
            (case side1 => repeat (first | exact (Kd.C_below HR169_2.out (fb1 GE170)) | (with_reducible refine Kd.C_alloc ?_ _) | (with_reducible refine Kd.C_drewN ?_ _) | (with_reducible refine Kd.C_drew ?_)))
            (case side2 => exact HC169_2.out)
            rintro e w36 ⟨rfl, hb⟩
            refine ⟨_, rfl, ?_⟩
            have n0_ := Aside0.mk (blk_below (g := gb170) (o := .cells #[.int .i64 ((rd_T54 l1 x15_1).f0), .float .f64 ((rd_T54 l1 x15_1).f1), .slice A169_2 ((rd_T54 l1 x15_1).f2).length c169_2] 54 (0, 0)) (kp BK170.out) hb)
            have n1_ := Aside0.mk (below_step (fb1 GE170) hb)
            clear BK170
            clear HB
            have BK170 := n0_
            have HB := n1_
            clear n0_ n1_
            (try clear hb)
            refine hK.out _ _ ⟨(blk_cell BK170.out 0).trans rfl, (blk_cell BK170.out 1).trans rfl, (blk_cell BK170.out 2).trans rfl⟩ (fun hHeld => ?_)
            clear hK K
            refine norm_ (a' := ?_) ?_ ?_; rotate_left; show Act.put _ (some 54) _ = _; simp only [Act.put, qa, qb, qc, i64_w, i32_w]; rfl
            refine pu2 35 (some 55) (bz 37 68719476735) ?_
            refine pu2 36 (some 56) (bz 37 137438953471) ?_
            refine done_ (done_of HT_.out (by kernel_rfl)) ?_
            try go_wp2
            go_meet
            case rel => exact ⟨_, (!t176), fz, H', ⟨by have := HK1.out; exact fl⟩, ⟨kp BK170.out⟩, ⟨fb1 GE170⟩⟩
           ·rw [if_neg c32] at H
            have c32b0 := bh_ c32
            have c32b1 := bi_ c32
            have H' := Aside0.mk H
            clear H
            try go_wp2
            have n0_ : Aside0 ((((w9.setCell ⟨gb170, 0, none⟩ (.int .i64 ((rd_T54 l1 x15_1).f0))).setCell ⟨gb170, 1, none⟩ (.float .f64 ((rd_T54 l1 x15_1).f1))).setCell ⟨gb170, 2, none⟩ (.slice A169_2 ((rd_T54 l1 x15_1).f2).length c169_2)).heap[gb170]? = some (.cells #[.int .i64 ((rd_T54 l1 x15_1).f0), .float .f64 ((rd_T54 l1 x15_1).f1), .slice A169_2 ((rd_T54 l1 x15_1).f2).length c169_2] 54 (0, 0))) := ⟨kp BK170.out⟩
            have n1_ : Aside0 (Below w.heap.size w (((w9.setCell ⟨gb170, 0, none⟩ (.int .i64 ((rd_T54 l1 x15_1).f0))).setCell ⟨gb170, 1, none⟩ (.float .f64 ((rd_T54 l1 x15_1).f1))).setCell ⟨gb170, 2, none⟩ (.slice A169_2 ((rd_T54 l1 x15_1).f2).length c169_2))) := ⟨fb1 GE170⟩
            (try clear BK170)
            (try clear HB)
            generalize (((w9.setCell ⟨gb170, 0, none⟩ (.int .i64 ((rd_T54 l1 x15_1).f0))).setCell ⟨gb170, 1, none⟩ (.float .f64 ((rd_T54 l1 x15_1).f1))).setCell ⟨gb170, 2, none⟩ (.slice A169_2 ((rd_T54 l1 x15_1).f2).length c169_2)) = w37 at n0_ n1_ ⊢
            have BK170 := n0_
            have HB := n1_
            clear n0_ n1_
            have n0_ := Aside0.mk (blk_drew BK170.out)
            have n1_ := Aside0.mk (below_drew1 HB.out)
            clear BK170
            clear HB
            have BK170 := n0_
            have HB := n1_
            clear n0_ n1_
            refine start_ (n := 37) (S := fun w' => w'.cell? ⟨gb170, 0, none⟩ = some (.int .i64 ((rd_T54 l1 x15_1).f0)) ∧ w'.cell? ⟨gb170, 1, none⟩ = some (.float .f64 ((rd_T54 l1 x15_1).f1)) ∧ w'.cell? ⟨gb170, 2, none⟩ = some (.slice A169_2 ((rd_T54 l1 x15_1).f2).length c169_2)) (ds := []) (bz 37 0) (by kernel_rfl) rfl rfl ⟨(blk_cell BK170.out 0).trans rfl, (blk_cell BK170.out 1).trans rfl, (blk_cell BK170.out 2).trans rfl⟩ (fun hHeld => ?_); refine with_tabW landdv_Check.tab7 landdv_Check.bits7 (fun HT_ HW_ => ?_)
            generalize w37.drew = w38 at BK170 HB hHeld ⊢
            refine pu2 0 (some 20) (bz 37 1) ?_
            refine pu2 2 (some 22) (bz 37 5) ?_
            refine tk2 1 (some 21) (bz 37 7) ?_
            refine pu2 3 (some 23) (bz 37 15) ?_
            refine pu2 4 (some 24) (bz 37 31) ?_
            refine pu2 5 (some 25) (bz 37 63) ?_
            refine tk2 6 (some 26) (bz 37 127) ?_
            refine one_ (i := 7) (N := some 27) (bz 37 255) rfl rfl (one_of HT_.out (by kernel_rfl)) (by decide) (fun K hK => ?_)
            refine goes_ Try.func49 (by kernel_rfl) rfl #[.int .i64 ((rd_T54 l1 x15_1).f0)] (by rfl) rfl rfl (by (try simp only [List.map_toArray, List.map_cons, List.map_nil]); first | done | rfl | (simp only [List.length_drop, List.length_take]; rfl)) ?_
            with_reducible refine (ident_CheckId.calls k1 ((rd_T54 l1 x15_1).f0) t171 _ A14.out).mono ?_
            rintro e w' ⟨rfl, ⟨nd, rfl⟩⟩
            refine ⟨_, rfl, ?_⟩
            refine hK.out _ _ ⟨(blk_cell BK170.out 0).trans rfl, (blk_cell BK170.out 1).trans rfl, (blk_cell BK170.out 2).trans rfl⟩ (fun hHeld => ?_)
            clear hK K
            refine norm_ (a' := ?_) ?_ ?_; rotate_left; show Act.put _ (some 27) _ = _; simp only [Act.put, qa, qb, qc, i64_w, i32_w]; rfl
            refine pu2 8 (some 28) (bz 37 511) ?_
            refine pu2 9 (some 29) (bz 37 1023) ?_
            refine pu2 10 (some 30) (bz 37 2047) ?_
            refine pu2 11 (some 31) (bz 37 4095) ?_
            refine pu2 12 (some 32) (bz 37 8191) ?_
            refine pu2 13 (some 33) (bz 37 16383) ?_
            refine pz2 14 (some 34) (bz 37 32767) ?_
            refine pz2 15 (some 35) (bz 37 65535) ?_
            refine pz2 16 (some 36) (bz 37 131071) ?_
            refine pz2 17 (some 37) (bz 37 262143) ?_
            refine pz2 18 (some 38) (bz 37 524287) ?_
            refine pz2 19 (some 39) (bz 37 1048575) ?_
            refine pz2 20 (some 40) (bz 37 2097151) ?_
            refine pz2 21 (some 41) (bz 37 4194303) ?_
            refine pz2 22 (some 42) (bz 37 8388607) ?_
            refine pu2 23 (some 43) (bz 37 16777215) ?_
            refine pu2 24 (some 44) (bz 37 33554431) ?_
            refine pu2 25 (some 45) (bz 37 67108863) ?_
            refine pu2 26 (some 46) (bz 37 134217727) ?_
            refine tk2 27 (some 47) (bz 37 268435455) ?_
            refine one_ (i := 28) (N := some 48) (bz 37 536870911) rfl rfl (one_of HT_.out (by kernel_rfl)) (by decide) (fun K hK => ?_)
            refine goes_ Try.func50 (by kernel_rfl) rfl #[.float .f64 ((rd_T54 l1 x15_1).f1)] (by rfl) rfl rfl (by (try simp only [List.map_toArray, List.map_cons, List.map_nil]); first | done | rfl | (simp only [List.length_drop, List.length_take]; rfl)) ?_
            with_reducible refine (metric_Weight.calls ((rd_T54 l1 x15_1).f1) t175 _ A31.out).mono ?_
            rintro e w' ⟨rfl, ⟨nd, rfl⟩⟩
            refine ⟨_, rfl, ?_⟩
            refine hK.out _ _ ⟨(blk_cell BK170.out 0).trans rfl, (blk_cell BK170.out 1).trans rfl, (blk_cell BK170.out 2).trans rfl⟩ (fun hHeld => ?_)
            clear hK K
            refine norm_ (a' := ?_) ?_ ?_; rotate_left; show Act.put _ (some 48) _ = _; simp only [Act.put, qa, qb, qc, i64_w, i32_w]; rfl
            refine pu2 29 (some 49) (bz 37 1073741823) ?_
            refine pu2 30 (some 50) (bz 37 2147483647) ?_
            refine pu2 31 (some 51) (bz 37 4294967295) ?_
            refine pz2 32 (some 52) (bz 37 8589934591) ?_
            refine pz2 33 (some 53) (bz 37 17179869183) ?_
            refine pz2 34 (some 54) (bz 37 34359738367) ?_
            refine pz2 35 (some 55) (bz 37 68719476735) ?_
            refine pu2 36 (some 56) (bz 37 137438953471) ?_
            refine done_ (done_of HT_.out (by kernel_rfl)) ?_
            try go_wp2
            go_meet
            case rel => exact ⟨_, (true), fz, H', ⟨by have := HK1.out; exact fl⟩, ⟨kp BK170.out⟩, ⟨fb1 GE170⟩⟩
         ·rw [if_neg c15] at H
          have c15b0 := bh_ c15
          have c15b1 := bi_ c15
          have H' := Aside0.mk H
          clear H
          try go_wp2
          have n0_ : Aside0 ((((w9.setCell ⟨gb170, 0, none⟩ (.int .i64 ((rd_T54 l1 x15_1).f0))).setCell ⟨gb170, 1, none⟩ (.float .f64 ((rd_T54 l1 x15_1).f1))).setCell ⟨gb170, 2, none⟩ (.slice A169_2 ((rd_T54 l1 x15_1).f2).length c169_2)).heap[gb170]? = some (.cells #[.int .i64 ((rd_T54 l1 x15_1).f0), .float .f64 ((rd_T54 l1 x15_1).f1), .slice A169_2 ((rd_T54 l1 x15_1).f2).length c169_2] 54 (0, 0))) := ⟨kp BK170.out⟩
          have n1_ : Aside0 (Below w.heap.size w (((w9.setCell ⟨gb170, 0, none⟩ (.int .i64 ((rd_T54 l1 x15_1).f0))).setCell ⟨gb170, 1, none⟩ (.float .f64 ((rd_T54 l1 x15_1).f1))).setCell ⟨gb170, 2, none⟩ (.slice A169_2 ((rd_T54 l1 x15_1).f2).length c169_2))) := ⟨fb1 GE170⟩
          (try clear BK170)
          (try clear HB)
          generalize (((w9.setCell ⟨gb170, 0, none⟩ (.int .i64 ((rd_T54 l1 x15_1).f0))).setCell ⟨gb170, 1, none⟩ (.float .f64 ((rd_T54 l1 x15_1).f1))).setCell ⟨gb170, 2, none⟩ (.slice A169_2 ((rd_T54 l1 x15_1).f2).length c169_2)) = w39 at n0_ n1_ ⊢
          have BK170 := n0_
          have HB := n1_
          clear n0_ n1_
          have n0_ := Aside0.mk (blk_drew BK170.out)
          have n1_ := Aside0.mk (below_drew1 HB.out)
          clear BK170
          clear HB
          have BK170 := n0_
          have HB := n1_
          clear n0_ n1_
          refine start_ (n := 37) (S := fun w' => w'.cell? ⟨gb170, 0, none⟩ = some (.int .i64 ((rd_T54 l1 x15_1).f0)) ∧ w'.cell? ⟨gb170, 1, none⟩ = some (.float .f64 ((rd_T54 l1 x15_1).f1)) ∧ w'.cell? ⟨gb170, 2, none⟩ = some (.slice A169_2 ((rd_T54 l1 x15_1).f2).length c169_2)) (ds := []) (bz 37 0) (by kernel_rfl) rfl rfl ⟨(blk_cell BK170.out 0).trans rfl, (blk_cell BK170.out 1).trans rfl, (blk_cell BK170.out 2).trans rfl⟩ (fun hHeld => ?_); refine with_tabW landdv_Check.tab7 landdv_Check.bits7 (fun HT_ HW_ => ?_)
          generalize w39.drew = w40 at BK170 HB hHeld ⊢
          refine pu2 0 (some 20) (bz 37 1) ?_
          refine pu2 2 (some 22) (bz 37 5) ?_
          refine tk2 1 (some 21) (bz 37 7) ?_
          refine pu2 3 (some 23) (bz 37 15) ?_
          refine pu2 4 (some 24) (bz 37 31) ?_
          refine pu2 5 (some 25) (bz 37 63) ?_
          refine tk2 6 (some 26) (bz 37 127) ?_
          refine one_ (i := 7) (N := some 27) (bz 37 255) rfl rfl (one_of HT_.out (by kernel_rfl)) (by decide) (fun K hK => ?_)
          refine goes_ Try.func49 (by kernel_rfl) rfl #[.int .i64 ((rd_T54 l1 x15_1).f0)] (by rfl) rfl rfl (by (try simp only [List.map_toArray, List.map_cons, List.map_nil]); first | done | rfl | (simp only [List.length_drop, List.length_take]; rfl)) ?_
          with_reducible refine (ident_CheckId.calls k1 ((rd_T54 l1 x15_1).f0) t171 _ A14.out).mono ?_
          rintro e w' ⟨rfl, ⟨nd, rfl⟩⟩
          refine ⟨_, rfl, ?_⟩
          refine hK.out _ _ ⟨(blk_cell BK170.out 0).trans rfl, (blk_cell BK170.out 1).trans rfl, (blk_cell BK170.out 2).trans rfl⟩ (fun hHeld => ?_)
          clear hK K
          refine norm_ (a' := ?_) ?_ ?_; rotate_left; show Act.put _ (some 27) _ = _; simp only [Act.put, qa, qb, qc, i64_w, i32_w]; rfl
          refine pu2 8 (some 28) (bz 37 511) ?_
          refine pu2 9 (some 29) (bz 37 1023) ?_
          refine pu2 10 (some 30) (bz 37 2047) ?_
          refine pz2 11 (some 31) (bz 37 4095) ?_
          refine pz2 12 (some 32) (bz 37 8191) ?_
          refine pz2 13 (some 33) (bz 37 16383) ?_
          refine pz2 14 (some 34) (bz 37 32767) ?_
          refine pz2 15 (some 35) (bz 37 65535) ?_
          refine pz2 16 (some 36) (bz 37 131071) ?_
          refine pz2 17 (some 37) (bz 37 262143) ?_
          refine pz2 18 (some 38) (bz 37 524287) ?_
          refine pz2 19 (some 39) (bz 37 1048575) ?_
          refine pz2 20 (some 40) (bz 37 2097151) ?_
          refine pz2 21 (some 41) (bz 37 4194303) ?_
          refine pz2 22 (some 42) (bz 37 8388607) ?_
          refine pz2 23 (some 43) (bz 37 16777215) ?_
          refine pu2 24 (some 44) (bz 37 33554431) ?_
          refine pu2 25 (some 45) (bz 37 67108863) ?_
          refine pz2 26 (some 46) (bz 37 134217727) ?_
          refine pz2 27 (some 47) (bz 37 268435455) ?_
          refine pz2 28 (some 48) (bz 37 536870911) ?_
          refine pz2 29 (some 49) (bz 37 1073741823) ?_
          refine pu2 30 (some 50) (bz 37 2147483647) ?_
          refine pu2 31 (some 51) (bz 37 4294967295) ?_
          refine pz2 32 (some 52) (bz 37 8589934591) ?_
          refine pz2 33 (some 53) (bz 37 17179869183) ?_
          refine pz2 34 (some 54) (bz 37 34359738367) ?_
          refine pz2 35 (some 55) (bz 37 68719476735) ?_
          refine pu2 36 (some 56) (bz 37 137438953471) ?_
          refine done_ (done_of HT_.out (by kernel_rfl)) ?_
          try go_wp2
          go_meet
          case rel => exact ⟨_, (true), fz, H', ⟨by have := HK1.out; exact fl⟩, ⟨kp BK170.out⟩, ⟨fb1 GE170⟩⟩
       case rest =>
        clear HC8
        (try clear c1); (try clear c4); (try clear c5)
        obtain ⟨kq, x56_7, rfl, HA, HJ7, BK170, HB⟩ := hcut
        cases kq with
        | zero => exact absurd HA.out (by simp [landdv_Check.j1])
        | succ kj7 =>
         have H := HA.out
         clear HA
         simp only [landdv_Check.j1] at H
         by_cases c41 : x56_7 = true
         ·subst c41
          rw [if_pos rfl] at H
          obtain rfl := oj_ H
          go_wp2
          go_ret
          exact ⟨fe, fb1 GE170⟩
         ·obtain rfl := bf_ c41
          rw [if_neg nf_] at H
          have H' := Aside0.mk H
          clear H
          go_wp2
          go_roundg kj7
          case measure => have := HK1.out; have := HJ7.out; omega
          case rel => exact ⟨(wrap64 (x15_1 + 1)), fz, H', ⟨by have := HK1.out; have := HJ7.out; omega⟩, ⟨fb1 GE170⟩⟩
      ·rw [if_neg c7] at H
       exact absurd H (by simp)
     ·rw [if_neg c6] at H
      exact absurd H (by simp)
    ·rw [if_neg c5] at H
     have c5b0 := decide_eq_false c5
     clear c5
     obtain rfl := oj_ H
     go_wp2
     go_ret
     exact ⟨fe, fb⟩
 ·rw [if_neg c4] at H
  have c4b0 := bh_ c4
  have c4b1 := bi_ c4
  obtain rfl := oj_ H
  go_enter Try.func17, Try.ntmps17
  go_wp2_with (first | ((with_reducible refine gate_callee (f := 49) rfl ?_); refine gl_ (some 9) Try.func49 #[.int .i64 a0] ?_; (with_reducible refine (ident_CheckId.calls k a0 t168 _ A3.out).mono ?_); rintro e w' ⟨rfl, ⟨nd, rfl⟩⟩; refine ⟨_, rfl, ?_⟩))
  go_ret
  exact ⟨fe, fb⟩

end Go.Proofs.Ytjkhckbfkinheaa.GAa
