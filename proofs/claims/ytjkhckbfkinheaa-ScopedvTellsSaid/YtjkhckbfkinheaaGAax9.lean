-- written by a program of this session (wip/pp): see NOTES.md
import Derived.Test.YtjkhckbfkinheaaGAax0
import Derived.Test.YtjkhckbfkinheaaGAax7
import Derived.Test.YtjkhckbfkinheaaGAax8
namespace Go.Proofs.Ytjkhckbfkinheaa.GAa
open Go.RowKit Go.Proofs.YtjkhckbfkinheaaW.PrintWords Go.Proofs.YtjkhckbfkinheaaW.PrintLast Go.Proofs.YtjkhckbfkinheaaW.PrintMore
attribute [local go_sem] max2_int min2_int max_two min_two max_three min_three max_four min_four   -- for this text's walks alone
attribute [local go_sem high] binOp_flss binOp_fgtr binOp_fleq binOp_fgeq binOp_feql binOp_fneq run_fadd run_fsub run_fmul run_fquo unary_fneg run_ftoint run_fofint run_feqIn ext_bits ext_frombits ext_trunc
set_option linter.unusedVariables false
set_option linter.unusedSimpArgs false

/-! ### delta_told: function 137 -/
mutual
def delta_told.l0 : Nat → List (S56) → Int → Option (Bool)
 | 0, _, _ => none
 | k + 1, x0, x3 => if x3 < (x0.length : Int) then (if 0 ≤ x3 then (if x3 ≤ (mn (wrap64 (x3 + 512)) (x0.length : Int)) then (if (mn (wrap64 (x3 + 512)) (x0.length : Int)) ≤ (x0.length : Int) then ((message_Check.f k 2 1 1 1 ((x0.take ((mn (wrap64 (x3 + 512)) (x0.length : Int)) : Int).toNat).drop (x3 : Int).toNat) 0 0 0 0 0 0 0 0 (⟨#[]⟩ : ByteArray) 0 0 (⟨#[]⟩ : ByteArray)).bind fun t151 => (if t151 = 0 then (if x3 > 0 then (if 0 ≤ (wrap64 (x3 - 1)) then (if (wrap64 (x3 - 1)) < (x0.length : Int) then ((delta_ahead.f ((rd_T56 x0 (wrap64 (x3 - 1))).f0) ((rd_T56 x0 (wrap64 (x3 - 1))).f1) ((rd_T56 x0 (wrap64 (x3 - 1))).f2) ((rd_T56 x0 (wrap64 (x3 - 1))).f3) ((rd_T56 x0 (wrap64 (x3 - 1))).f4) ((rd_T56 x0 x3).f0) ((rd_T56 x0 x3).f1) ((rd_T56 x0 x3).f2) ((rd_T56 x0 x3).f3) ((rd_T56 x0 x3).f4)).bind fun t154 => (delta_told.j1 k x0 x3 (!t154))) else (none)) else (none)) else (delta_told.j1 k x0 x3 false)) else (some false))) else (none)) else (none)) else (none)) else (some true)
def delta_told.j1 : Nat → List (S56) → Int → Bool → Option (Bool)
 | 0, _, _, _ => none
 | k + 1, x0, x3, x37 => if x37 = true then (some false) else (delta_told.l0 k x0 (wrap64 (x3 + 512)))
end
def delta_told.f (k : Nat) (l0 : List (S56)) : Option (Bool) := delta_told.l0 k l0 0
theorem delta_told.mono_l : ∀ k, (∀ y0 y1, LeO (delta_told.l0 k y0 y1) (delta_told.l0 (k + 1) y0 y1)) ∧ (∀ y0 y1 y2, LeO (delta_told.j1 k y0 y1 y2) (delta_told.j1 (k + 1) y0 y1 y2))
 | 0 => ⟨fun _ _ r h => by simp [delta_told.l0] at h, fun _ _ _ r h => by simp [delta_told.j1] at h⟩
 | k + 1 => by
  obtain ⟨ih0, ih1⟩ := delta_told.mono_l k
  refine ⟨?_, ?_⟩
  ·intro y0 y1
   unfold delta_told.l0
   repeat' first
   | (with_reducible exact ih0 _ _)
   | (with_reducible exact ih1 _ _ _)
   | (with_reducible exact message_Check.mono _ _ _ _ _ _ _ _ _ _ _ _ _ _ _ _ _ _)
   | (with_reducible exact LeO.refl _)
   | (with_reducible exact LeO.none _)
   | (with_reducible refine LeO.ite ?_ ?_)
   | (with_reducible refine LeO.bind ?_ (fun _ => ?_))
   | exact ih0 _ _
   | exact ih1 _ _ _
   | exact message_Check.mono _ _ _ _ _ _ _ _ _ _ _ _ _ _ _ _ _ _
   | exact LeO.none _
   | refine LeO.ite ?_ ?_
   | refine LeO.bind ?_ (fun _ => ?_)
  ·intro y0 y1 y2
   unfold delta_told.j1
   repeat' first
   | (with_reducible exact ih0 _ _)
   | (with_reducible exact ih1 _ _ _)
   | (with_reducible exact message_Check.mono _ _ _ _ _ _ _ _ _ _ _ _ _ _ _ _ _ _)
   | (with_reducible exact LeO.refl _)
   | (with_reducible exact LeO.none _)
   | (with_reducible refine LeO.ite ?_ ?_)
   | (with_reducible refine LeO.bind ?_ (fun _ => ?_))
   | exact ih0 _ _
   | exact ih1 _ _ _
   | exact message_Check.mono _ _ _ _ _ _ _ _ _ _ _ _ _ _ _ _ _ _
   | exact LeO.none _
   | refine LeO.ite ?_ ?_
   | refine LeO.bind ?_ (fun _ => ?_)
theorem delta_told.mono : ∀ a0 k, LeO (delta_told.f k a0) (delta_told.f (k + 1) a0) := by
 intro a0 k
 obtain ⟨ih0, ih1⟩ := delta_told.mono_l k
 unfold delta_told.f
 repeat' first
   | (with_reducible exact ih0 _ _)
   | (with_reducible exact ih1 _ _ _)
   | (with_reducible exact message_Check.mono _ _ _ _ _ _ _ _ _ _ _ _ _ _ _ _ _ _)
   | (with_reducible exact LeO.refl _)
   | (with_reducible exact LeO.none _)
   | (with_reducible refine LeO.ite ?_ ?_)
   | (with_reducible refine LeO.bind ?_ (fun _ => ?_))
   | exact ih0 _ _
   | exact ih1 _ _ _
   | exact message_Check.mono _ _ _ _ _ _ _ _ _ _ _ _ _ _ _ _ _ _
   | exact LeO.none _
   | refine LeO.ite ?_ ?_
   | refine LeO.bind ?_ (fun _ => ?_)
def delta_told.T7 : Bool × List (List Nat × List Nat) := (true, [([], []), ([0], [0]), ([1], [1]), ([2], [2]), ([2], [2]), ([4, 2], [2, 4]), ([3, 5, 2], [2, 3, 5]), ([6, 2], [2, 6]), ([2], [2]), ([2], [2]), ([8, 9, 2], [2, 8, 9]), ([10, 2], [2, 10]), ([7, 11, 2, 2], [2, 7, 11]), ([12, 2], [2, 12]), ([2, 13], [2, 13])])
def delta_told.B7 : List Nat := [0, 1, 3, 7, 7, 23, 63, 127, 7, 7, 775, 1799, 4095, 8191, 16383]
theorem delta_told.tab7 : rtab .any (opsOf Try.f137 7) = delta_told.T7 := by kernel_rfl
theorem delta_told.bits7 : waitsOk delta_told.T7.2 delta_told.B7 = true := by kernel_rfl
set_option maxHeartbeats 8000000 in
set_option maxRecDepth 100000 in
theorem delta_told.calls (k : Nat) (A0 : Option Addr) (c0 : Nat) (l0 : List (S56)) (r : Bool) (w : World) (hr0 : Kd.C k56 w A0 l0.length l0) (hc0 : l0.length ≤ c0) (h : delta_told.f k l0 = some r) :
  Calls Try.prog 137 #[.slice A0 l0.length c0] w fun e w' => e = .returned (.bool r) ∧ Below w.heap.size w w' := by
 have hu118 := Try.underlying118
 have hu56 := Try.underlying56
 have HR0 := Aside0.mk hr0
 have HC0 := Aside0.mk hc0
 clear hr0 hc0
 have HB := Aside0.mk (Below.refl w.heap.size w)
 have H : (delta_told.l0 k l0 0) = some r := h
 clear h
 have H' := Aside0.mk H
 clear H
 go_enter Try.func137, Try.ntmps137
 go_wp2
 go_loopg [3] k (fun kq v3 w' => ∃ (x3_1 : Int), v3 = .int .i64 x3_1 ∧ Aside0 (delta_told.l0 kq l0 x3_1 = some r) ∧ Aside0 (kq ≤ k) ∧ Aside0 (Below w.heap.size w w'))
 case atStart => exact ⟨(0), fz, H', ⟨Nat.le_refl _⟩, ⟨fb⟩⟩
 case round =>
  clear H'
  obtain ⟨x3_1, rfl, HA, HK1, HB⟩ := hrel
  cases gk with
  | zero => exact absurd HA.out (by simp [delta_told.l0])
  | succ k1 =>
   have H := HA.out
   clear HA
   simp only [delta_told.l0] at H
   by_cases c2 : x3_1 < (l0.length : Int)
   ·rw [if_pos c2] at H
    have c2b0 := decide_eq_true c2
    clear c2
    obtain ⟨ji3, hji3⟩ : ∃ j_ : Int, (mn (wrap64 (x3_1 + 512)) (l0.length : Int)) = j_ := ⟨_, rfl⟩
    replace H : (if 0 ≤ x3_1 then (if x3_1 ≤ (ji3) then (if (ji3) ≤ (l0.length : Int) then ((message_Check.f k1 2 1 1 1 ((l0.take ((ji3) : Int).toNat).drop (x3_1 : Int).toNat) 0 0 0 0 0 0 0 0 (⟨#[]⟩ : ByteArray) 0 0 (⟨#[]⟩ : ByteArray)).bind fun t151 => (if t151 = 0 then (if x3_1 > 0 then (if 0 ≤ (wrap64 (x3_1 - 1)) then (if (wrap64 (x3_1 - 1)) < (l0.length : Int) then ((delta_ahead.f ((rd_T56 l0 (wrap64 (x3_1 - 1))).f0) ((rd_T56 l0 (wrap64 (x3_1 - 1))).f1) ((rd_T56 l0 (wrap64 (x3_1 - 1))).f2) ((rd_T56 l0 (wrap64 (x3_1 - 1))).f3) ((rd_T56 l0 (wrap64 (x3_1 - 1))).f4) ((rd_T56 l0 x3_1).f0) ((rd_T56 l0 x3_1).f1) ((rd_T56 l0 x3_1).f2) ((rd_T56 l0 x3_1).f3) ((rd_T56 l0 x3_1).f4)).bind fun t154 => (delta_told.j1 k1 l0 x3_1 (!t154))) else (none)) else (none)) else (delta_told.j1 k1 l0 x3_1 false)) else (some false))) else (none)) else (none)) else (none)) = some r := by first | (rw [hji3] at H; exact H) | (simp only [hji3] at H ⊢; exact H)
    have hji3_ : (if (l0.length : Int) < (wrap64 (x3_1 + 512)) then (l0.length : Int) else (wrap64 (x3_1 + 512))) = ji3 := hji3
    by_cases c4 : 0 ≤ x3_1
    ·rw [if_pos c4] at H
     have c4b0 := eq_true c4
     have c4b1 := decide_eq_true c4
     clear c4
     by_cases c5 : x3_1 ≤ (ji3)
     ·rw [if_pos c5] at H
      have c5b0 := eq_true c5
      have c5b1 := decide_eq_true c5
      clear c5
      by_cases c6 : (ji3) ≤ (l0.length : Int)
      ·rw [if_pos c6] at H
       have c6b0 := eq_true c6
       have c6b1 := decide_eq_true c6
       clear c6
       obtain ⟨y147, hy147⟩ : ∃ y_ : List (S56), y_ = ((l0.take ((ji3) : Int).toNat).drop (x3_1 : Int).toNat) := ⟨_, rfl⟩
       replace H : ((message_Check.f k1 2 1 1 1 y147 0 0 0 0 0 0 0 0 (⟨#[]⟩ : ByteArray) 0 0 (⟨#[]⟩ : ByteArray)).bind fun t151 => (if t151 = 0 then (if x3_1 > 0 then (if 0 ≤ (wrap64 (x3_1 - 1)) then (if (wrap64 (x3_1 - 1)) < (l0.length : Int) then ((delta_ahead.f ((rd_T56 l0 (wrap64 (x3_1 - 1))).f0) ((rd_T56 l0 (wrap64 (x3_1 - 1))).f1) ((rd_T56 l0 (wrap64 (x3_1 - 1))).f2) ((rd_T56 l0 (wrap64 (x3_1 - 1))).f3) ((rd_T56 l0 (wrap64 (x3_1 - 1))).f4) ((rd_T56 l0 x3_1).f0) ((rd_T56 l0 x3_1).f1) ((rd_T56 l0 x3_1).f2) ((rd_T56 l0 x3_1).f3) ((rd_T56 l0 x3_1).f4)).bind fun t154 => (delta_told.j1 k1 l0 x3_1 (!t154))) else (none)) else (none)) else (delta_told.j1 k1 l0 x3_1 false)) else (some false))) = some r := by first | (rw [hy147]; with_reducible exact H) | (have H2_ := (Option.bind_some _ _).symm.trans H; rw [hy147]; with_reducible exact H2_) | (have H2_ := (Option.bind_some _ _).symm.trans H; with_reducible exact H2_) | with_reducible exact H | (rw [hy147]; exact H) | exact H
       have Ny147 := Aside0.mk hy147
       clear hy147
       replace H := bs_ H; obtain ⟨t151, A7, H⟩ := H
       by_cases c8 : t151 = 0
       ·rw [if_pos c8] at H
        have c8b0 := be_ c8
        have c8b1 := bg_ c8
        clear c8
        have HC9 := Aside0.mk H
        clear H
        have q10 : ((ji3) : Int) ≤ ((l0.length : Int) : Int) := of_decide_eq_true (by first | (with_reducible assumption) | assumption)
        obtain ⟨i010, hi010, _, hsz10, _⟩ := info_parts info56
        have hroom10 : l0.length ≤ c0 := HC0.out
        have hC10 : Kd.C k56 _ A0 l0.length l0 := HR0.out
        have ql10 : (x3_1 : Int) ≤ ((ji3) : Int) := of_decide_eq_true (by first | (with_reducible assumption) | assumption)
        have q010 : (0 : Int) ≤ (x3_1 : Int) := of_decide_eq_true (by first | (with_reducible assumption) | assumption)
        have hcut10 := cut_mid (P := Try.prog) 35 56 .i64 .i64 Try.underlying35 hi010 5 hsz10 A0 l0.length c0 x3_1 (ji3) q010 ql10 q10 hroom10
        have hr10 := Kd.C_mid (lo := (x3_1 : Int).toNat) (hi := ((ji3) : Int).toNat) (c := c0) hC10 (by omega) (by omega) hroom10
        obtain ⟨A10, hA10⟩ : ∃ A1, A1 = (if c0 = (x3_1 : Int).toNat then A0 else (A0 : Option Addr).map (·.add ((x3_1 : Int).toNat * 5))) := ⟨_, rfl⟩
        obtain ⟨c10, hc10⟩ : ∃ c1, c1 = c0 - (x3_1 : Int).toNat := ⟨_, rfl⟩
        have hy10 : y147.length = ((ji3) : Int).toNat - (x3_1 : Int).toNat := (by rw [Ny147.out, List.length_drop, List.length_take] <;> omega)
        rw [show ((l0).take ((ji3) : Int).toNat).drop (x3_1 : Int).toNat = y147 from Ny147.out.symm] at hr10
        replace hr10 : Kd.C k56 _ A10 y147.length y147 := (by rw [hA10]; exact hr10)
        rw [← hy10, ← hA10, ← hc10] at hcut10
        have HR150 := Aside0.mk hr10
        have HC150 := Aside0.mk (show y147.length ≤ c10 from by rw [hy10, hc10]; exact Nat.sub_le_sub_right (Nat.le_trans (by omega) hroom10) _)
        clear hr10 hC10 hroom10 hi010 hsz10 hc10
        have KY10 := Aside0.mk hy10
        have KA10 := Aside0.mk hA10
        clear hy10 hA10
        replace q10 := eq_true q10
        go_upto_region 7 with (first | ((with_reducible refine gate_callee (f := 109) rfl ?_); refine gl_ (some 21) Try.func109 #[.agg #[.int .i64 2, .int .u64 1, .int .u64 1, .int .u64 1, .slice A10 y147.length c10, .int .i64 0, .int .i64 0, .int .i64 0, .int .i64 0, .int .i64 0, .int .i64 0, .int .u64 0, .int .i64 0, .string (⟨#[]⟩ : ByteArray), .int .i64 0, .int .i64 0, .string (⟨#[]⟩ : ByteArray)]] ?_; (with_reducible refine (message_Check.calls k1 2 1 1 1 _ _ y147 0 0 0 0 0 0 0 0 (⟨#[]⟩ : ByteArray) 0 0 (⟨#[]⟩ : ByteArray) t151 _ ?side1 ?side2 A7.out).mono ?_); (case side1 => repeat (first | exact (Kd.C_below HR150.out HB.out) | (with_reducible refine Kd.C_alloc ?_ _) | (with_reducible refine Kd.C_drewN ?_ _) | (with_reducible refine Kd.C_drew ?_))); (case side2 => exact HC150.out); rintro e w11 ⟨rfl, hb⟩; refine ⟨_, rfl, ?_⟩; replace HB := Aside0.mk (below_step fb hb); (try clear hb)))
        (try simp only [Act.put, qa, qb, qc])
        go_cut [37] (fun v37 wc => ∃ (kq : Nat) (x37_8 : Bool), v37 = .bool x37_8 ∧ Aside0 (delta_told.j1 kq l0 x3_1 x37_8 = some r) ∧ Aside0 (kq ≤ k1) ∧ Aside0 (Below w.heap.size w wc))
        case first =>
         have H := HC9.out
         clear HC9
         by_cases c12 : x3_1 > 0
         ·rw [if_pos c12] at H
          have c12b0 := decide_eq_true c12
          clear c12
          (first | rw [c12b0] | (simp only [i64_w, i32_w]; rw [c12b0]) | skip)
          obtain ⟨ji13, hji13⟩ : ∃ j_ : Int, (wrap64 (x3_1 - 1)) = j_ := ⟨_, rfl⟩
          replace H : (if 0 ≤ (ji13) then (if (ji13) < (l0.length : Int) then ((delta_ahead.f ((rd_T56 l0 (ji13)).f0) ((rd_T56 l0 (ji13)).f1) ((rd_T56 l0 (ji13)).f2) ((rd_T56 l0 (ji13)).f3) ((rd_T56 l0 (ji13)).f4) ((rd_T56 l0 x3_1).f0) ((rd_T56 l0 x3_1).f1) ((rd_T56 l0 x3_1).f2) ((rd_T56 l0 x3_1).f3) ((rd_T56 l0 x3_1).f4)).bind fun t154 => (delta_told.j1 k1 l0 x3_1 (!t154))) else (none)) else (none)) = some r := by first | (rw [hji13] at H; exact H) | (simp only [hji13] at H ⊢; exact H)
          have hji13w : (IntKind.i64.wrap (x3_1 - 1)) = ji13 := (i64_w _).trans hji13
          by_cases c14 : 0 ≤ (ji13)
          ·rw [if_pos c14] at H
           have c14b0 := decide_eq_true c14
           clear c14
           by_cases c15 : (ji13) < (l0.length : Int)
           ·rw [if_pos c15] at H
            have c15b0 := decide_eq_true c15
            clear c15
            replace H := bs_ H; obtain ⟨t154, A16, H⟩ := H
            have H' := Aside0.mk H
            clear H
            try go_wp2
            have n0_ := Aside0.mk (below_drew1 HB.out)
            clear HB
            have HB := n0_
            clear n0_
            have p152 : 0 ≤ ((ji13) : Int) := of_decide_eq_true (by first | (with_reducible assumption) | assumption)
            have q152 : (ji13) < (l0.length : Int) := of_decide_eq_true (by first | (with_reducible assumption) | assumption)
            obtain ⟨ad152, e152, hx152_0, hx152_1, hx152_2, hx152_3, hx152_4⟩ := at_T56 HR0.out (ji13) p152 q152
            have hw152_4 := hx152_4
            have hw152_3 := hx152_3
            have hw152_2 := hx152_2
            have hw152_1 := hx152_1
            have hw152_0 := hx152_0
            cases e152
            replace hx152_0 := pw_cell_below HB.out hx152_0
            replace hx152_1 := pw_cell_below HB.out hx152_1
            replace hx152_2 := pw_cell_below HB.out hx152_2
            replace hx152_3 := pw_cell_below HB.out hx152_3
            replace hx152_4 := pw_cell_below HB.out hx152_4
            replace p152 := eq_true p152
            replace q152 := eq_true q152
            have p153 : 0 ≤ (x3_1 : Int) := of_decide_eq_true (by first | (with_reducible assumption) | assumption)
            have q153 : x3_1 < (l0.length : Int) := of_decide_eq_true (by first | (with_reducible assumption) | assumption)
            obtain ⟨ad153, e153, hx153_0, hx153_1, hx153_2, hx153_3, hx153_4⟩ := at_T56 HR0.out x3_1 p153 q153
            have hw153_4 := hx153_4
            have hw153_3 := hx153_3
            have hw153_2 := hx153_2
            have hw153_1 := hx153_1
            have hw153_0 := hx153_0
            obtain rfl : ad152 = ad153 := (by injection e153)
            replace hx153_0 := pw_cell_below HB.out hx153_0
            replace hx153_1 := pw_cell_below HB.out hx153_1
            replace hx153_2 := pw_cell_below HB.out hx153_2
            replace hx153_3 := pw_cell_below HB.out hx153_3
            replace hx153_4 := pw_cell_below HB.out hx153_4
            replace p153 := eq_true p153
            replace q153 := eq_true q153
            refine start_ (n := 15) (S := fun w' => w'.cell? (ad152.add (((ji13)).toNat * 5)) = some (.int .i64 ((rd_T56 l0 (ji13)).f0)) ∧ w'.cell? ⟨(ad152.add (((ji13)).toNat * 5)).block, (ad152.add (((ji13)).toNat * 5)).off + 1, none⟩ = some (.int .i64 ((rd_T56 l0 (ji13)).f1)) ∧ w'.cell? ⟨(ad152.add (((ji13)).toNat * 5)).block, (ad152.add (((ji13)).toNat * 5)).off + 2, none⟩ = some (.float .f64 ((rd_T56 l0 (ji13)).f2)) ∧ w'.cell? ⟨(ad152.add (((ji13)).toNat * 5)).block, (ad152.add (((ji13)).toNat * 5)).off + 3, none⟩ = some (.float .f64 ((rd_T56 l0 (ji13)).f3)) ∧ w'.cell? ⟨(ad152.add (((ji13)).toNat * 5)).block, (ad152.add (((ji13)).toNat * 5)).off + 4, none⟩ = some (.int .i64 ((rd_T56 l0 (ji13)).f4)) ∧ w'.cell? (ad152.add ((x3_1).toNat * 5)) = some (.int .i64 ((rd_T56 l0 x3_1).f0)) ∧ w'.cell? ⟨(ad152.add ((x3_1).toNat * 5)).block, (ad152.add ((x3_1).toNat * 5)).off + 1, none⟩ = some (.int .i64 ((rd_T56 l0 x3_1).f1)) ∧ w'.cell? ⟨(ad152.add ((x3_1).toNat * 5)).block, (ad152.add ((x3_1).toNat * 5)).off + 2, none⟩ = some (.float .f64 ((rd_T56 l0 x3_1).f2)) ∧ w'.cell? ⟨(ad152.add ((x3_1).toNat * 5)).block, (ad152.add ((x3_1).toNat * 5)).off + 3, none⟩ = some (.float .f64 ((rd_T56 l0 x3_1).f3)) ∧ w'.cell? ⟨(ad152.add ((x3_1).toNat * 5)).block, (ad152.add ((x3_1).toNat * 5)).off + 4, none⟩ = some (.int .i64 ((rd_T56 l0 x3_1).f4))) (ds := []) (bz 15 0) (by kernel_rfl) rfl rfl ⟨((HB.out.cell (World.block_lt_of_cell? w _ hw152_0)).trans hw152_0), ((HB.out.cell (World.block_lt_of_cell? w _ hw152_1)).trans hw152_1), ((HB.out.cell (World.block_lt_of_cell? w _ hw152_2)).trans hw152_2), ((HB.out.cell (World.block_lt_of_cell? w _ hw152_3)).trans hw152_3), ((HB.out.cell (World.block_lt_of_cell? w _ hw152_4)).trans hw152_4), ((HB.out.cell (World.block_lt_of_cell? w _ hw153_0)).trans hw153_0), ((HB.out.cell (World.block_lt_of_cell? w _ hw153_1)).trans hw153_1), ((HB.out.cell (World.block_lt_of_cell? w _ hw153_2)).trans hw153_2), ((HB.out.cell (World.block_lt_of_cell? w _ hw153_3)).trans hw153_3), ((HB.out.cell (World.block_lt_of_cell? w _ hw153_4)).trans hw153_4)⟩ (fun hHeld => ?_); refine with_tabW delta_told.tab7 delta_told.bits7 (fun HT_ HW_ => ?_)
            generalize w11.drew = w17 at HB hx152_0 hx152_1 hx152_2 hx152_3 hx152_4 hx153_0 hx153_1 hx153_2 hx153_3 hx153_4 hHeld ⊢
            refine pu2 0 (some 23) (bz 15 1) ?_
            refine pu2 1 (some 24) (bz 15 3) ?_
            refine pu2 2 (some 25) (bz 15 7) ?_
            refine pu2 3 (some 26) (bz 15 15) ?_
            refine pu2 4 (some 27) (bz 15 31) ?_
            refine pu2 5 (some 28) (bz 15 63) ?_
            refine pu2 6 (some 29) (bz 15 127) ?_
            refine pu2 8 (some 31) (bz 15 383) ?_
            refine pu2 9 (some 32) (bz 15 895) ?_
            refine pu2 10 (some 33) (bz 15 1919) ?_
            refine tk2 7 (some 30) (bz 15 2047) ?_
            refine tk2 11 (some 34) (bz 15 4095) ?_
            refine one_ (i := 12) (N := some 35) (bz 15 8191) rfl rfl (one_of HT_.out (by kernel_rfl)) (by decide) (fun K hK => ?_)
            refine goes_ Try.func153 (by kernel_rfl) rfl #[.agg #[.int .i64 ((rd_T56 l0 (ji13)).f0), .int .i64 ((rd_T56 l0 (ji13)).f1), .float .f64 ((rd_T56 l0 (ji13)).f2), .float .f64 ((rd_T56 l0 (ji13)).f3), .int .i64 ((rd_T56 l0 (ji13)).f4)], .agg #[.int .i64 ((rd_T56 l0 x3_1).f0), .int .i64 ((rd_T56 l0 x3_1).f1), .float .f64 ((rd_T56 l0 x3_1).f2), .float .f64 ((rd_T56 l0 x3_1).f3), .int .i64 ((rd_T56 l0 x3_1).f4)]] (by rfl) rfl rfl (by (try simp only [List.map_toArray, List.map_cons, List.map_nil]); first | done | (simp only [hji13]; rfl) | rfl | (simp only [List.length_drop, List.length_take]; rfl)) ?_
            with_reducible refine (delta_ahead.calls ((rd_T56 l0 (ji13)).f0) ((rd_T56 l0 (ji13)).f1) ((rd_T56 l0 (ji13)).f2) ((rd_T56 l0 (ji13)).f3) ((rd_T56 l0 (ji13)).f4) ((rd_T56 l0 x3_1).f0) ((rd_T56 l0 x3_1).f1) ((rd_T56 l0 x3_1).f2) ((rd_T56 l0 x3_1).f3) ((rd_T56 l0 x3_1).f4) t154 _ A16.out).mono ?_
            rintro e w18 ⟨rfl, hb⟩
            refine ⟨_, rfl, ?_⟩
            have n0_ := Aside0.mk (below_step fb hb)
            clear HB
            have HB := n0_
            clear n0_
            (try clear hb)
            (try clear hi)
            refine hK.out _ _ ⟨((HB.out.cell (World.block_lt_of_cell? w _ hw152_0)).trans hw152_0), ((HB.out.cell (World.block_lt_of_cell? w _ hw152_1)).trans hw152_1), ((HB.out.cell (World.block_lt_of_cell? w _ hw152_2)).trans hw152_2), ((HB.out.cell (World.block_lt_of_cell? w _ hw152_3)).trans hw152_3), ((HB.out.cell (World.block_lt_of_cell? w _ hw152_4)).trans hw152_4), ((HB.out.cell (World.block_lt_of_cell? w _ hw153_0)).trans hw153_0), ((HB.out.cell (World.block_lt_of_cell? w _ hw153_1)).trans hw153_1), ((HB.out.cell (World.block_lt_of_cell? w _ hw153_2)).trans hw153_2), ((HB.out.cell (World.block_lt_of_cell? w _ hw153_3)).trans hw153_3), ((HB.out.cell (World.block_lt_of_cell? w _ hw153_4)).trans hw153_4)⟩ (fun hHeld => ?_)
            clear hK K
            refine norm_ (a' := ?_) ?_ ?_; rotate_left; show Act.put _ (some 35) _ = _; simp only [Act.put, qa, qb, qc, i64_w, i32_w]; rfl
            refine pu2 13 (some 36) (bz 15 16383) ?_
            refine pu2 14 (some 37) (bz 15 32767) ?_
            refine done_ (done_of HT_.out (by kernel_rfl)) ?_
            try go_wp2
            go_meet
            case rel => exact ⟨_, (!t154), fz, H', ⟨by have := HK1.out; exact fl⟩, ⟨fb⟩⟩
           ·rw [if_neg c15] at H
            exact absurd H (by simp)
          ·rw [if_neg c14] at H
           exact absurd H (by simp)
         ·rw [if_neg c12] at H
          have c12b0 := decide_eq_false c12
          clear c12
          (first | rw [c12b0] | (simp only [i64_w, i32_w]; rw [c12b0]) | skip)
          have H' := Aside0.mk H
          clear H
          try go_wp2
          have n0_ := Aside0.mk (below_drew1 HB.out)
          clear HB
          have HB := n0_
          clear n0_
          refine start_ (n := 15) (S := fun w' => True) (ds := []) (bz 15 0) (by kernel_rfl) rfl rfl trivial (fun hHeld => ?_); refine with_tabW delta_told.tab7 delta_told.bits7 (fun HT_ HW_ => ?_)
          generalize w11.drew = w19 at HB hHeld ⊢
          refine pu2 0 (some 23) (bz 15 1) ?_
          refine pu2 1 (some 24) (bz 15 3) ?_
          refine pu2 2 (some 25) (bz 15 7) ?_
          refine pz2 3 (some 26) (bz 15 15) ?_
          refine pz2 4 (some 27) (bz 15 31) ?_
          refine pz2 5 (some 28) (bz 15 63) ?_
          refine pz2 6 (some 29) (bz 15 127) ?_
          refine pz2 7 (some 30) (bz 15 255) ?_
          refine pz2 8 (some 31) (bz 15 511) ?_
          refine pz2 9 (some 32) (bz 15 1023) ?_
          refine pz2 10 (some 33) (bz 15 2047) ?_
          refine pz2 11 (some 34) (bz 15 4095) ?_
          refine pz2 12 (some 35) (bz 15 8191) ?_
          refine pz2 13 (some 36) (bz 15 16383) ?_
          refine pu2 14 (some 37) (bz 15 32767) ?_
          refine done_ (done_of HT_.out (by kernel_rfl)) ?_
          try go_wp2
          go_meet
          case rel => exact ⟨_, (false), fz, H', ⟨by have := HK1.out; exact fl⟩, ⟨fb⟩⟩
        case rest =>
         clear HC9
         (try clear c1); (try clear c2); (try clear c2b0); (try clear c4); (try clear c4b0); (try clear c4b1); (try clear c5); (try clear c5b0); (try clear c5b1); (try clear c6); (try clear c6b0); (try clear c6b1); (try clear c8); (try clear c8b0); (try clear c8b1); (try clear c10); (try clear q10); (try clear q010); (try clear q10)
         obtain ⟨kq, x37_8, rfl, HA, HJ8, HB⟩ := hcut
         cases kq with
         | zero => exact absurd HA.out (by simp [delta_told.j1])
         | succ kj8 =>
          have H := HA.out
          clear HA
          simp only [delta_told.j1] at H
          by_cases c20 : x37_8 = true
          ·subst c20
           rw [if_pos rfl] at H
           obtain rfl := oj_ H
           go_wp2
           go_ret
           exact ⟨by first | rfl | (simp [errW_none, errW_some] <;> rfl) | (simp only [← hji3]; first | rfl | (simp [errW_none, errW_some] <;> rfl)) | (simp [*, errW_none, errW_some] <;> rfl), fb⟩
          ·obtain rfl := bf_ c20
           rw [if_neg nf_] at H
           have H' := Aside0.mk H
           clear H
           go_wp2
           go_roundg kj8
           case measure => have := HK1.out; have := HJ8.out; omega
           case rel => exact ⟨(wrap64 (x3_1 + 512)), fz, H', ⟨by have := HK1.out; have := HJ8.out; omega⟩, ⟨fb⟩⟩
       ·rw [if_neg c8] at H
        have c8b0 := bh_ c8
        have c8b1 := bi_ c8
        obtain rfl := oj_ H
        have q21 : ((ji3) : Int) ≤ ((l0.length : Int) : Int) := of_decide_eq_true (by first | (with_reducible assumption) | assumption)
        obtain ⟨i021, hi021, _, hsz21, _⟩ := info_parts info56
        have hroom21 : l0.length ≤ c0 := HC0.out
        have hC21 : Kd.C k56 _ A0 l0.length l0 := HR0.out
        have ql21 : (x3_1 : Int) ≤ ((ji3) : Int) := of_decide_eq_true (by first | (with_reducible assumption) | assumption)
        have q021 : (0 : Int) ≤ (x3_1 : Int) := of_decide_eq_true (by first | (with_reducible assumption) | assumption)
        have hcut21 := cut_mid (P := Try.prog) 35 56 .i64 .i64 Try.underlying35 hi021 5 hsz21 A0 l0.length c0 x3_1 (ji3) q021 ql21 q21 hroom21
        have hr21 := Kd.C_mid (lo := (x3_1 : Int).toNat) (hi := ((ji3) : Int).toNat) (c := c0) hC21 (by omega) (by omega) hroom21
        obtain ⟨A21, hA21⟩ : ∃ A1, A1 = (if c0 = (x3_1 : Int).toNat then A0 else (A0 : Option Addr).map (·.add ((x3_1 : Int).toNat * 5))) := ⟨_, rfl⟩
        obtain ⟨c21, hc21⟩ : ∃ c1, c1 = c0 - (x3_1 : Int).toNat := ⟨_, rfl⟩
        have hy21 : y147.length = ((ji3) : Int).toNat - (x3_1 : Int).toNat := (by rw [Ny147.out, List.length_drop, List.length_take] <;> omega)
        rw [show ((l0).take ((ji3) : Int).toNat).drop (x3_1 : Int).toNat = y147 from Ny147.out.symm] at hr21
        replace hr21 : Kd.C k56 _ A21 y147.length y147 := (by rw [hA21]; exact hr21)
        rw [← hy21, ← hA21, ← hc21] at hcut21
        have HR150 := Aside0.mk hr21
        have HC150 := Aside0.mk (show y147.length ≤ c21 from by rw [hy21, hc21]; exact Nat.sub_le_sub_right (Nat.le_trans (by omega) hroom21) _)
        clear hr21 hC21 hroom21 hi021 hsz21 hc21
        have KY21 := Aside0.mk hy21
        have KA21 := Aside0.mk hA21
        clear hy21 hA21
        replace q21 := eq_true q21
        go_wp2_with (first | ((with_reducible refine gate_callee (f := 109) rfl ?_); refine gl_ (some 21) Try.func109 #[.agg #[.int .i64 2, .int .u64 1, .int .u64 1, .int .u64 1, .slice A21 y147.length c21, .int .i64 0, .int .i64 0, .int .i64 0, .int .i64 0, .int .i64 0, .int .i64 0, .int .u64 0, .int .i64 0, .string (⟨#[]⟩ : ByteArray), .int .i64 0, .int .i64 0, .string (⟨#[]⟩ : ByteArray)]] ?_; (with_reducible refine (message_Check.calls k1 2 1 1 1 _ _ y147 0 0 0 0 0 0 0 0 (⟨#[]⟩ : ByteArray) 0 0 (⟨#[]⟩ : ByteArray) t151 _ ?side1 ?side2 A7.out).mono ?_); (case side1 => repeat (first | exact (Kd.C_below HR150.out HB.out) | (with_reducible refine Kd.C_alloc ?_ _) | (with_reducible refine Kd.C_drewN ?_ _) | (with_reducible refine Kd.C_drew ?_))); (case side2 => exact HC150.out); rintro e w22 ⟨rfl, hb⟩; refine ⟨_, rfl, ?_⟩; replace HB := Aside0.mk (below_step fb hb); (try clear hb)))
        go_ret
        exact ⟨by first | rfl | (simp [errW_none, errW_some] <;> rfl) | (simp only [← hji3]; first | rfl | (simp [errW_none, errW_some] <;> rfl)) | (simp [*, errW_none, errW_some] <;> rfl), fb⟩
      ·rw [if_neg c6] at H
       exact absurd H (by simp)
     ·rw [if_neg c5] at H
      exact absurd H (by simp)
    ·rw [if_neg c4] at H
     exact absurd H (by simp)
   ·rw [if_neg c2] at H
    have c2b0 := decide_eq_false c2
    clear c2
    obtain rfl := oj_ H
    go_wp2
    go_ret
    exact ⟨fe, fb⟩

end Go.Proofs.Ytjkhckbfkinheaa.GAa
