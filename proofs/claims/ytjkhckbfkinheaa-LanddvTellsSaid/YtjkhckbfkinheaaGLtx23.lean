-- written by a program of this session (wip/pp): see NOTES.md
import Derived.Test.YtjkhckbfkinheaaGLtx0
import Derived.Test.YtjkhckbfkinheaaGLtx20
import Derived.Test.YtjkhckbfkinheaaGLtx22
namespace Go.Proofs.Ytjkhckbfkinheaa.GLt
open Go.RowKit Go.Proofs.YtjkhckbfkinheaaW.PrintWords Go.Proofs.YtjkhckbfkinheaaW.PrintLast Go.Proofs.YtjkhckbfkinheaaW.PrintMore
attribute [local go_sem] max2_int min2_int max_two min_two max_three min_three max_four min_four   -- for this text's walks alone
attribute [local go_sem high] binOp_flss binOp_fgtr binOp_fleq binOp_fgeq binOp_feql binOp_fneq run_fadd run_fsub run_fmul run_fquo unary_fneg run_ftoint run_fofint run_feqIn ext_bits ext_frombits ext_trunc
set_option linter.unusedVariables false
set_option linter.unusedSimpArgs false

/-! ### beaconref15_Tell: function 31 -/
mutual
def beaconref15_Tell.l0 : Nat → Int → List (S58) → List (S56) → Bool → Int → Int → Int → Nat → Nat → Int → Option ((List (S56)) × Int)
 | 0, _, _, _, _, _, _, _, _, _, _ => none
 | k + 1, x0, x2, x10, x11, x12, x257000, x257001, x257002, x257003, x257004 => if x12 < (x2.length : Int) then (if x11 = true then (beaconref15_Tell.j1 k x0 x2 x10 x11 x12 false x257000 x257001 x257002 x257003 x257004) else (if 0 ≤ x12 then (beaconref15_Tell.j1 k x0 x2 x10 x11 x12 (decide (((rd_T58 x2 x12).f0) > x0)) x257000 x257001 x257002 x257003 x257004) else (none))) else (if x11 = true then (some (x10, 0)) else (if x10.length < 3518437208883 then (some ((x10 ++ [(⟨x257000, x257001, x257002, x257003, x257004⟩ : S56)]), 0)) else (none)))
def beaconref15_Tell.j1 : Nat → Int → List (S58) → List (S56) → Bool → Int → Bool → Int → Int → Nat → Nat → Int → Option ((List (S56)) × Int)
 | 0, _, _, _, _, _, _, _, _, _, _, _ => none
 | k + 1, x0, x2, x10, x11, x12, x40, x257000, x257001, x257002, x257003, x257004 => if x40 = true then (if x10.length < 3518437208883 then (beaconref15_Tell.j2 k x0 x2 (x10 ++ [(⟨x257000, x257001, x257002, x257003, x257004⟩ : S56)]) true x12 x257000 x257001 x257002 x257003 x257004) else (none)) else (beaconref15_Tell.j2 k x0 x2 x10 x11 x12 x257000 x257001 x257002 x257003 x257004)
def beaconref15_Tell.j2 : Nat → Int → List (S58) → List (S56) → Bool → Int → Int → Int → Nat → Nat → Int → Option ((List (S56)) × Int)
 | 0, _, _, _, _, _, _, _, _, _, _ => none
 | k + 1, x0, x2, x10, x11, x12, x257000, x257001, x257002, x257003, x257004 => if 0 ≤ x12 then (if x12 < (x2.length : Int) then ((beaconref15_Far.f ((rd_T58 x2 x12).f2)).bind fun t265 => (if t265 = true then (beaconref15_Tell.l0 k x0 x2 x10 x11 (wrap64 (x12 + 1)) x257000 x257001 x257002 x257003 x257004) else (if x10.length < 3518437208883 then (beaconref15_Tell.l0 k x0 x2 (x10 ++ [(⟨(rd_T58 x2 x12).f0, 1, (rd_T58 x2 x12).f2, 0, 0⟩ : S56)]) x11 (wrap64 (x12 + 1)) x257000 x257001 x257002 x257003 x257004) else (none)))) else (none)) else (none)
end
def beaconref15_Tell.f (k : Nat) (a0 : Int) (a1 : Bool) (l2 : List (S58)) : Option ((List (S56)) × Int) := (beaconref15_may.f k a0 l2).bind fun t255 => (if t255 = 0 then (beaconref15_Tell.l0 k a0 l2 (([] : List (S56))) (!a1) 0 a0 1 0 0 0) else (some (([] : List (S56)), t255)))
def beaconref15_Tell.T13 : Bool × List (List Nat × List Nat) := (true, [([], []), ([], []), ([], []), ([1, 2], [1, 2]), ([3], [3]), ([4], [4]), ([], []), ([], []), ([6, 7], [6, 7]), ([8], [8]), ([9], [9]), ([5, 10], [5, 10]), ([11], [11]), ([0, 12], [0, 12]), ([13, 13, 0, 1, 2, 3, 4, 5, 6, 7, 8, 9, 10, 11, 12, 13], [0, 13])])
def beaconref15_Tell.B13 : List Nat := [0, 0, 0, 6, 14, 30, 0, 0, 192, 448, 960, 2046, 4094, 8191, 16383]
theorem beaconref15_Tell.tab13 : rtab .any (opsOf Try.f31 13) = beaconref15_Tell.T13 := by kernel_rfl
theorem beaconref15_Tell.bits13 : waitsOk beaconref15_Tell.T13.2 beaconref15_Tell.B13 = true := by kernel_rfl
set_option maxHeartbeats 8000000 in
set_option maxRecDepth 100000 in
theorem beaconref15_Tell.calls (k : Nat) (a0 : Int) (a1 : Bool) (A2 : Option Addr) (c2 : Nat) (l2 : List (S58)) (r1 : List (S56)) (r2 : Int) (w : World) (hr2 : Kd.C k58 w A2 l2.length l2) (hc2 : l2.length ≤ c2) (h : beaconref15_Tell.f k a0 a1 l2 = some (r1, r2)) :
  Calls Try.prog 31 #[.int .i64 a0, .bool a1, .slice A2 l2.length c2] w fun e w' => ∃ v0_ : Value, e = .returned (.tuple #[v0_, .int .i64 r2]) ∧ Kd.R k56 56 w' w.heap.size (fun _ => True) v0_ r1 ∧ Below w.heap.size w w' := by
 have hu56 := Try.underlying56
 have HR2 := Aside0.mk hr2
 have HC2 := Aside0.mk hc2
 clear hr2 hc2
 have HB := Aside0.mk (Below.refl w.heap.size w)
 have H : ((beaconref15_may.f k a0 l2).bind fun t255 => (if t255 = 0 then (beaconref15_Tell.l0 k a0 l2 (([] : List (S56))) (!a1) 0 a0 1 0 0 0) else (some (([] : List (S56)), t255)))) = some (r1, r2) := h
 clear h
 replace H := bs_ H; obtain ⟨t255, A4, H⟩ := H
 by_cases c5 : t255 = 0
 ·rw [if_pos c5] at H
  have c5b0 := be_ c5
  have c5b1 := bg_ c5
  clear c5
  obtain ⟨y257, hy257⟩ : ∃ y_ : List (S56), y_ = (([] : List (S56))) := ⟨_, rfl⟩
  replace H : (beaconref15_Tell.l0 k a0 l2 y257 (!a1) 0 a0 1 0 0 0) = some (r1, r2) := by first | (rw [hy257]; with_reducible exact H) | (have H2_ := (Option.bind_some _ _).symm.trans H; rw [hy257]; with_reducible exact H2_) | (have H2_ := (Option.bind_some _ _).symm.trans H; with_reducible exact H2_) | with_reducible exact H | (rw [hy257]; exact H) | exact H
  have Ny257 := Aside0.mk hy257
  clear hy257
  have H' := Aside0.mk H
  clear H
  go_enter Try.func31, Try.ntmps31
  go_wp2_with (first | ((with_reducible refine gate_callee (f := 65) rfl ?_); refine gl_ (some 15) Try.func65 #[.int .i64 a0, .slice A2 l2.length c2] ?_; (with_reducible refine (beaconref15_may.calls k a0 _ _ l2 t255 _ ?side1 ?side2 A4.out).mono ?_); (case side1 => repeat (first | exact HR2.out | (with_reducible refine Kd.C_alloc ?_ _) | (with_reducible refine Kd.C_drewN ?_ _) | (with_reducible refine Kd.C_drew ?_))); (case side2 => exact HC2.out); rintro e w6 ⟨rfl, hb⟩; refine ⟨_, rfl, ?_⟩; replace HB := Aside0.mk (below_step fb hb); (try clear hb); (try clear hk)) | ((with_reducible refine gate_dst (N := 9) rfl ?_); refine bx_ (N := 9) #[.int .i64 0, .int .i64 0, .float .f64 0, .float .f64 0, .int .i64 0] 56 ⟨fb⟩ ?_; clear HB; intro gb256 w7 HB BK256 GE256; have GW256 := GE256; obtain ⟨hcz8_0, hcz8_1, hcz8_2, hcz8_3, hcz8_4, hfz8_0, hfz8_1, hfz8_2, hfz8_3, hfz8_4⟩ := cz5 BK256.out) | ((with_reducible refine gate_dst (N := 21) rfl ?_); refine Kd.R_lit k56 _ 56 ?hg (N := 21) ?hd (xs := ([] : List (S56))) (inner := []) (ok := fun _ => True) (okp := fun _ => True) ?hr ?hp (fun _ hk => hk) trivial (Below.refl _ _) (Nat.le_refl _) (by simp) ?_; (case hd => rfl); (case hg => rfl); (case hr => first | (go_simp; done) | (go_simp; rfl)); (case hp => exact (Reps.none _ _)); intro v258 w9 ho10 hb hg_ hnew_; clear hg_ hnew_; (first | rw [← Ny257.out] at ho10 | (simp only [Int.reduceToNat] at ho10; rw [← Ny257.out] at ho10)); have n0_ := Aside0.mk (Kd.R_lower (Kd.R_newB ho10 (g := gb256) (o := .cells #[.int .i64 a0, .int .i64 1, .float .f64 0, .float .f64 0, .int .i64 0] 56 (0, 0)) (kp BK256.out)) (below_size (fb1 GE256))); have n1_ := Aside0.mk (blk_below (g := gb256) (o := .cells #[.int .i64 a0, .int .i64 1, .float .f64 0, .float .f64 0, .int .i64 0] 56 (0, 0)) (kp BK256.out) hb); have n2_ := Aside0.mk (below_step (fb1 GE256) hb); clear BK256; clear HB; have HO259 := n0_; have BK256 := n1_; have HB := n2_; clear n0_ n1_ n2_; clear hb ho10))
  go_loopg [10, 11, 12] k (fun kq v10 v11 v12 w' => ∃ (x10_1 : List (S56)) (x11_1 : Bool) (x12_1 : Int), v11 = .bool x11_1 ∧ v12 = .int .i64 x12_1 ∧ Aside0 (beaconref15_Tell.l0 kq a0 l2 x10_1 x11_1 x12_1 a0 1 0 0 0 = some (r1, r2)) ∧ Aside0 (kq ≤ k) ∧ Aside0 (Kd.R k56 56 w' w.heap.size (fun k_ => k_ ≠ gb256) v10 x10_1) ∧ Aside0 (w'.heap[gb256]? = some (.cells #[.int .i64 a0, .int .i64 1, .float .f64 0, .float .f64 0, .int .i64 0] 56 (0, 0))) ∧ Aside0 (Below w.heap.size w w'))
  case atStart => exact ⟨(y257), (!a1), (0), fz, fz, H', ⟨Nat.le_refl _⟩, ⟨by (with_reducible repeat (first | apply Kd.R_alloc | apply Kd.R_drewN | apply Kd.R_drew)); exact Kd.R_mono HO259.out (fun _ hk => hk.2)⟩, ⟨kp BK256.out⟩, ⟨fb1 GE256⟩⟩
  case round =>
   clear H'
   (try clear c2); (try clear c5); (try clear c5b0); (try clear c5b1); (try clear hcz8_0); (try clear hcz8_1); (try clear hcz8_2); (try clear hcz8_3); (try clear hcz8_4); (try clear hfz8_0); (try clear hfz8_1); (try clear hfz8_2); (try clear hfz8_3); (try clear hfz8_4)
   obtain ⟨x10_1, x11_1, x12_1, rfl, rfl, HA, HK1, HO_10, BK256, HB⟩ := hrel
   cases gk with
   | zero => exact absurd HA.out (by simp [beaconref15_Tell.l0])
   | succ k1 =>
    have H := HA.out
    clear HA
    simp only [beaconref15_Tell.l0] at H
    by_cases c11 : x12_1 < (l2.length : Int)
    ·rw [if_pos c11] at H
     have c11b0 := decide_eq_true c11
     clear c11
     have HC12 := Aside0.mk H
     clear H
     go_upto_region 9 with (fail)
     go_cut [40] (fun v40 wc => ∃ (kq : Nat) (x40_11 : Bool), v40 = .bool x40_11 ∧ Aside0 (beaconref15_Tell.j1 kq a0 l2 x10_1 x11_1 x12_1 x40_11 a0 1 0 0 0 = some (r1, r2)) ∧ Aside0 (kq ≤ k1) ∧ Aside0 (Kd.R k56 56 wc w.heap.size (fun k_ => k_ ≠ gb256) u10 x10_1) ∧ Aside0 (wc.heap[gb256]? = some (.cells #[.int .i64 a0, .int .i64 1, .float .f64 0, .float .f64 0, .int .i64 0] 56 (0, 0))) ∧ Aside0 (Below w.heap.size w wc))
     case first =>
      have H := HC12.out
      clear HC12
      by_cases c13 : x11_1 = true
      ·subst c13
       have H1 : (beaconref15_Tell.j1 k1 a0 l2 x10_1 true x12_1 false a0 1 0 0 0) = some (r1, r2) := by rw [if_pos rfl] at H; exact H
       clear H
       have H := H1
       clear H1
       have H' := Aside0.mk H
       clear H
       go_wp2
       go_meet
       case rel => exact ⟨_, (false), fz, H', ⟨by have := HK1.out; exact fl⟩, ⟨by (with_reducible repeat (first | apply Kd.R_alloc | apply Kd.R_drewN | apply Kd.R_drew)); exact HO_10.out⟩, ⟨kp BK256.out⟩, ⟨fb1 GE256⟩⟩
      ·obtain rfl := bf_ c13
       have H1 : (if 0 ≤ x12_1 then (beaconref15_Tell.j1 k1 a0 l2 x10_1 false x12_1 (decide (((rd_T58 l2 x12_1).f0) > a0)) a0 1 0 0 0) else (none)) = some (r1, r2) := by rw [if_neg (show ¬ (false = true) by decide)] at H; exact H
       clear H
       have H := H1
       clear H1
       by_cases c14 : 0 ≤ x12_1
       ·rw [if_pos c14] at H
        have c14b0 := decide_eq_true c14
        clear c14
        (first | rw [c14b0] | (simp only [i64_w, i32_w]; rw [c14b0]) | skip)
        have H' := Aside0.mk H
        clear H
        have p260 : 0 ≤ (x12_1 : Int) := of_decide_eq_true (by first | (with_reducible assumption) | assumption)
        have q260 : x12_1 < (l2.length : Int) := of_decide_eq_true (by first | (with_reducible assumption) | assumption)
        obtain ⟨ad260, e260, hx260_0, hx260_1, hx260_2, hx260_3, hx260_4, hx260_5⟩ := at_T58 HR2.out x12_1 p260 q260
        cases e260
        replace hx260_0 := pw_cell_below HB.out hx260_0
        replace hx260_1 := pw_cell_below HB.out hx260_1
        replace hx260_2 := pw_cell_below HB.out hx260_2
        replace hx260_3 := pw_cell_below HB.out hx260_3
        replace hx260_4 := pw_cell_below HB.out hx260_4
        replace hx260_5 := pw_cell_below HB.out hx260_5
        replace p260 := eq_true p260
        replace q260 := eq_true q260
        go_wp2
        go_meet
        case rel => exact ⟨_, (decide (((rd_T58 l2 x12_1).f0) > a0)), fz, H', ⟨by have := HK1.out; exact fl⟩, ⟨by (with_reducible repeat (first | apply Kd.R_alloc | apply Kd.R_drewN | apply Kd.R_drew)); exact HO_10.out⟩, ⟨kp BK256.out⟩, ⟨fb1 GE256⟩⟩
       ·rw [if_neg c14] at H
        exact absurd H (by simp)
     case rest =>
      clear HC12
      (try clear c2); (try clear c5); (try clear c5b0); (try clear c5b1); (try clear c11); (try clear c11b0); (try clear hcz8_0); (try clear hcz8_1); (try clear hcz8_2); (try clear hcz8_3); (try clear hcz8_4); (try clear hfz8_0); (try clear hfz8_1); (try clear hfz8_2); (try clear hfz8_3); (try clear hfz8_4)
      obtain ⟨kq, x40_11, rfl, HA, HJ11, HO_10, BK256, HB⟩ := hcut
      cases kq with
      | zero => exact absurd HA.out (by simp [beaconref15_Tell.j1])
      | succ kj11 =>
       have H := HA.out
       clear HA
       simp only [beaconref15_Tell.j1] at H
       have HC15 := Aside0.mk H
       clear H
       go_upto_if 40 with (fail)
       go_cut [10, 11] (fun v10 v11 wc => ∃ (kq : Nat) (x10_14 : List (S56)) (x11_14 : Bool), v11 = .bool x11_14 ∧ Aside0 (beaconref15_Tell.j2 kq a0 l2 x10_14 x11_14 x12_1 a0 1 0 0 0 = some (r1, r2)) ∧ Aside0 (kq ≤ kj11) ∧ Aside0 (Kd.R k56 56 wc w.heap.size (fun k_ => k_ ≠ gb256) v10 x10_14) ∧ Aside0 (wc.heap[gb256]? = some (.cells #[.int .i64 a0, .int .i64 1, .float .f64 0, .float .f64 0, .int .i64 0] 56 (0, 0))) ∧ Aside0 (Below w.heap.size w wc))
       case first =>
        have H := HC15.out
        clear HC15
        by_cases c16 : x40_11 = true
        ·subst c16
         have H1 : (if x10_1.length < 3518437208883 then (beaconref15_Tell.j2 kj11 a0 l2 (x10_1 ++ [(⟨a0, 1, 0, 0, 0⟩ : S56)]) true x12_1 a0 1 0 0 0) else (none)) = some (r1, r2) := by rw [if_pos rfl] at H; exact H
         clear H
         have H := H1
         clear H1
         by_cases c17 : x10_1.length < 3518437208883
         ·rw [if_pos c17] at H
          have LMc17 := Aside0.mk c17
          clear c17
          obtain ⟨y261, hy261⟩ : ∃ y_ : List (S56), y_ = (x10_1 ++ [(⟨a0, 1, 0, 0, 0⟩ : S56)]) := ⟨_, rfl⟩
          replace H : (beaconref15_Tell.j2 kj11 a0 l2 y261 true x12_1 a0 1 0 0 0) = some (r1, r2) := by first | (rw [hy261]; with_reducible exact H) | (have H2_ := (Option.bind_some _ _).symm.trans H; rw [hy261]; with_reducible exact H2_) | (have H2_ := (Option.bind_some _ _).symm.trans H; with_reducible exact H2_) | with_reducible exact H | (rw [hy261]; exact H) | exact H
          have Ny261 := Aside0.mk hy261
          clear hy261
          have H' := Aside0.mk H
          clear H
          obtain ⟨hcz18_0, hcz18_1, hcz18_2, hcz18_3, hcz18_4, hfz18_0, hfz18_1, hfz18_2, hfz18_3, hfz18_4⟩ := cz5 BK256.out
          go_wp2_with (first | ((with_reducible refine gate_builtin (b := .append) (xs := #[.tmp 41, .tmp 43]) rfl ?_); at_builtin; refine Kd.R_append k56 (w0 := w) w.heap.size rfl (.tmp 41) (.tmp 43) 35 56 (.agg #[(.int .i64 0), (.int .i64 0), (.float .f64 0), (.float .f64 0), (.int .i64 0)]) 40 rfl Try.underlying35 info56 rfl (by decide) (by omega) u10 x10_1 (⟨a0, 1, 0, 0, 0⟩ : S56) [.int .i64 a0, .int .i64 1, .float .f64 0, .float .f64 0, .int .i64 0] (fun k_ => k_ ≠ gb256) (fun _ => False) rfl rfl ?aP (fun _ hk => hk.elim) ?aF ?aO ?aB ?aS ?aL ?_; (case aP => exact k56_mkM _ _ _ (⟨a0, 1, 0, 0, 0⟩ : S56)); (case aB => exact (fb1 GE256)); (case aF => exact (fun k_ hk => Kd.freshB (g := gb256) (o := .cells #[.int .i64 a0, .int .i64 1, .float .f64 0, .float .f64 0, .int .i64 0] 56 (0, 0)) (kp BK256.out) k_ hk)); (case aO => exact (by (with_reducible repeat (first | apply Kd.R_alloc | apply Kd.R_drewN | apply Kd.R_drew)); exact HO_10.out)); (case aS => exact (below_size (fb1 GE256))); (case aL => have := LMc17.out; omega); intro v262 w19 ho hb hg hat; rw [← Ny261.out] at ho; have n0_ := Aside0.mk (blk_grown (g := gb256) (o := .cells #[.int .i64 a0, .int .i64 1, .float .f64 0, .float .f64 0, .int .i64 0] 56 (0, 0)) (kp BK256.out) hg (Kd.R_away HO_10.out (fun _ hk => hk))); have n1_ := Aside0.mk (hb); have n2_ := Aside0.mk (ho); clear BK256; clear HB; clear HO_10; have BK256 := n0_; have HB := n1_; have HO263 := n2_; clear n0_ n1_ n2_; clear ho hb hg hat))
          go_meet
          case rel => exact ⟨_, (y261), (true), fz, H', ⟨by have := HK1.out; have := HJ11.out; exact fl⟩, ⟨by (with_reducible repeat (first | apply Kd.R_alloc | apply Kd.R_drewN | apply Kd.R_drew)); exact HO263.out⟩, ⟨kp BK256.out⟩, ⟨fb1 GE256⟩⟩
         ·rw [if_neg c17] at H
          exact absurd H (by simp)
        ·obtain rfl := bf_ c16
         have H1 : (beaconref15_Tell.j2 kj11 a0 l2 x10_1 x11_1 x12_1 a0 1 0 0 0) = some (r1, r2) := by rw [if_neg (show ¬ (false = true) by decide)] at H; exact H
         clear H
         have H := H1
         clear H1
         have H' := Aside0.mk H
         clear H
         go_wp2
         go_meet
         case rel => exact ⟨_, (x10_1), (x11_1), fz, H', ⟨by have := HK1.out; have := HJ11.out; exact fl⟩, ⟨by (with_reducible repeat (first | apply Kd.R_alloc | apply Kd.R_drewN | apply Kd.R_drew)); exact HO_10.out⟩, ⟨kp BK256.out⟩, ⟨fb1 GE256⟩⟩
       case rest =>
        clear HC15
        (try clear c2); (try clear c5); (try clear c5b0); (try clear c5b1); (try clear c11); (try clear c11b0); (try clear hcz8_0); (try clear hcz8_1); (try clear hcz8_2); (try clear hcz8_3); (try clear hcz8_4); (try clear hfz8_0); (try clear hfz8_1); (try clear hfz8_2); (try clear hfz8_3); (try clear hfz8_4)
        obtain ⟨kq, x10_14, x11_14, rfl, HA, HJ14, HO_10, BK256, HB⟩ := hcut
        cases kq with
        | zero => exact absurd HA.out (by simp [beaconref15_Tell.j2])
        | succ kj14 =>
         have H := HA.out
         clear HA
         simp only [beaconref15_Tell.j2] at H
         by_cases c20 : 0 ≤ x12_1
         ·rw [if_pos c20] at H
          have c20b0 := decide_eq_true c20
          clear c20
          by_cases c21 : x12_1 < (l2.length : Int)
          ·rw [if_pos c21] at H
           have c21b0 := decide_eq_true c21
           clear c21
           replace H := bs_ H; obtain ⟨t265, A22, H⟩ := H
           by_cases c23 : t265 = true
           ·subst c23
            have H1 : (beaconref15_Tell.l0 kj14 a0 l2 x10_14 x11_14 (wrap64 (x12_1 + 1)) a0 1 0 0 0) = some (r1, r2) := by rw [if_pos rfl] at H; exact H
            clear H
            have H := H1
            clear H1
            have H' := Aside0.mk H
            clear H
            have p264 : 0 ≤ (x12_1 : Int) := of_decide_eq_true (by first | (with_reducible assumption) | assumption)
            have q264 : x12_1 < (l2.length : Int) := of_decide_eq_true (by first | (with_reducible assumption) | assumption)
            obtain ⟨ad264, e264, hx264_0, hx264_1, hx264_2, hx264_3, hx264_4, hx264_5⟩ := at_T58 HR2.out x12_1 p264 q264
            cases e264
            replace hx264_0 := pw_cell_below HB.out hx264_0
            replace hx264_1 := pw_cell_below HB.out hx264_1
            replace hx264_2 := pw_cell_below HB.out hx264_2
            replace hx264_3 := pw_cell_below HB.out hx264_3
            replace hx264_4 := pw_cell_below HB.out hx264_4
            replace hx264_5 := pw_cell_below HB.out hx264_5
            replace p264 := eq_true p264
            replace q264 := eq_true q264
            go_wp2_with (first | ((with_reducible refine gate_callee (f := 67) rfl ?_); refine gl_ (some 50) Try.func67 #[.float .f64 ((rd_T58 l2 x12_1).f2)] ?_; (with_reducible refine (beaconref15_Far.calls ((rd_T58 l2 x12_1).f2) true _ A22.out).mono ?_); rintro e w' ⟨rfl, ⟨nd, rfl⟩⟩; refine ⟨_, rfl, ?_⟩))
            go_roundg kj14
            case measure => have := HK1.out; have := HJ11.out; have := HJ14.out; omega
            case rel => exact ⟨(x10_14), (x11_14), (wrap64 (x12_1 + 1)), fz, fz, H', ⟨by have := HK1.out; have := HJ11.out; have := HJ14.out; omega⟩, ⟨by (with_reducible repeat (first | apply Kd.R_alloc | apply Kd.R_drewN | apply Kd.R_drew)); exact HO_10.out⟩, ⟨kp BK256.out⟩, ⟨fb1 GE256⟩⟩
           ·obtain rfl := bf_ c23
            have H1 : (if x10_14.length < 3518437208883 then (beaconref15_Tell.l0 kj14 a0 l2 (x10_14 ++ [(⟨(rd_T58 l2 x12_1).f0, 1, (rd_T58 l2 x12_1).f2, 0, 0⟩ : S56)]) x11_14 (wrap64 (x12_1 + 1)) a0 1 0 0 0) else (none)) = some (r1, r2) := by rw [if_neg (show ¬ (false = true) by decide)] at H; exact H
            clear H
            have H := H1
            clear H1
            by_cases c24 : x10_14.length < 3518437208883
            ·rw [if_pos c24] at H
             have LMc24 := Aside0.mk c24
             clear c24
             obtain ⟨y268, hy268⟩ : ∃ y_ : List (S56), y_ = (x10_14 ++ [(⟨(rd_T58 l2 x12_1).f0, 1, (rd_T58 l2 x12_1).f2, 0, 0⟩ : S56)]) := ⟨_, rfl⟩
             replace H : (beaconref15_Tell.l0 kj14 a0 l2 y268 x11_14 (wrap64 (x12_1 + 1)) a0 1 0 0 0) = some (r1, r2) := by first | (rw [hy268]; with_reducible exact H) | (have H2_ := (Option.bind_some _ _).symm.trans H; rw [hy268]; with_reducible exact H2_) | (have H2_ := (Option.bind_some _ _).symm.trans H; with_reducible exact H2_) | with_reducible exact H | (rw [hy268]; exact H) | exact H
             have Ny268 := Aside0.mk hy268
             clear hy268
             have H' := Aside0.mk H
             clear H
             have p264 : 0 ≤ (x12_1 : Int) := of_decide_eq_true (by first | (with_reducible assumption) | assumption)
             have q264 : x12_1 < (l2.length : Int) := of_decide_eq_true (by first | (with_reducible assumption) | assumption)
             obtain ⟨ad264, e264, hx264_0, hx264_1, hx264_2, hx264_3, hx264_4, hx264_5⟩ := at_T58 HR2.out x12_1 p264 q264
             cases e264
             replace hx264_0 := pw_cell_below HB.out hx264_0
             replace hx264_1 := pw_cell_below HB.out hx264_1
             replace hx264_2 := pw_cell_below HB.out hx264_2
             replace hx264_3 := pw_cell_below HB.out hx264_3
             replace hx264_4 := pw_cell_below HB.out hx264_4
             replace hx264_5 := pw_cell_below HB.out hx264_5
             replace p264 := eq_true p264
             replace q264 := eq_true q264
             try go_wp2_with (first | ((with_reducible refine gate_callee (f := 67) rfl ?_); refine gl_ (some 50) Try.func67 #[.float .f64 ((rd_T58 l2 x12_1).f2)] ?_; (with_reducible refine (beaconref15_Far.calls ((rd_T58 l2 x12_1).f2) false _ A22.out).mono ?_); rintro e w' ⟨rfl, ⟨nd, rfl⟩⟩; refine ⟨_, rfl, ?_⟩))
             (try (rw [drewN_self wc]; generalize hq_ : World.drewN wc _ = wc; have n0_ : Aside0 (Kd.R k56 56 wc w.heap.size (fun k_ => k_ ≠ gb256) u10 x10_14) := ⟨by rw [← hq_]; exact (by (with_reducible repeat (first | apply Kd.R_alloc | apply Kd.R_drewN | apply Kd.R_drew)); exact HO_10.out)⟩; have n1_ : Aside0 (wc.heap[gb256]? = some (.cells #[.int .i64 a0, .int .i64 1, .float .f64 0, .float .f64 0, .int .i64 0] 56 (0, 0))) := ⟨by rw [← hq_]; exact (kp BK256.out)⟩; have n2_ : Aside0 (Below w.heap.size w wc) := ⟨by rw [← hq_]; exact (fb1 GE256)⟩; clear HO_10 BK256 HB hq_; have HO_10 := n0_; have BK256 := n1_; have HB := n2_; clear n0_ n1_ n2_))
             have n0_ := Aside0.mk (Kd.R_drew HO_10.out)
             have n1_ := Aside0.mk (blk_drew BK256.out)
             have n2_ := Aside0.mk (below_drew1 HB.out)
             clear HO_10
             clear BK256
             clear HB
             have HO_10 := n0_
             have BK256 := n1_
             have HB := n2_
             clear n0_ n1_ n2_
             have p266 : 0 ≤ (x12_1 : Int) := of_decide_eq_true (by first | (with_reducible assumption) | assumption)
             have q266 : x12_1 < (l2.length : Int) := of_decide_eq_true (by first | (with_reducible assumption) | assumption)
             obtain ⟨ad266, e266, hx266_0, hx266_1, hx266_2, hx266_3, hx266_4, hx266_5⟩ := at_T58 HR2.out x12_1 p266 q266
             have hw266_5 := hx266_5
             have hw266_4 := hx266_4
             have hw266_3 := hx266_3
             have hw266_2 := hx266_2
             have hw266_1 := hx266_1
             have hw266_0 := hx266_0
             obtain rfl : ad264 = ad266 := (by injection e266)
             replace hx266_0 := pw_cell_below HB.out hx266_0
             replace hx266_1 := pw_cell_below HB.out hx266_1
             replace hx266_2 := pw_cell_below HB.out hx266_2
             replace hx266_3 := pw_cell_below HB.out hx266_3
             replace hx266_4 := pw_cell_below HB.out hx266_4
             replace hx266_5 := pw_cell_below HB.out hx266_5
             replace p266 := eq_true p266
             replace q266 := eq_true q266
             have p267 : 0 ≤ (x12_1 : Int) := of_decide_eq_true (by first | (with_reducible assumption) | assumption)
             have q267 : x12_1 < (l2.length : Int) := of_decide_eq_true (by first | (with_reducible assumption) | assumption)
             obtain ⟨ad267, e267, hx267_0, hx267_1, hx267_2, hx267_3, hx267_4, hx267_5⟩ := at_T58 HR2.out x12_1 p267 q267
             have hw267_5 := hx267_5
             have hw267_4 := hx267_4
             have hw267_3 := hx267_3
             have hw267_2 := hx267_2
             have hw267_1 := hx267_1
             have hw267_0 := hx267_0
             obtain rfl : ad264 = ad267 := (by injection e267)
             replace hx267_0 := pw_cell_below HB.out hx267_0
             replace hx267_1 := pw_cell_below HB.out hx267_1
             replace hx267_2 := pw_cell_below HB.out hx267_2
             replace hx267_3 := pw_cell_below HB.out hx267_3
             replace hx267_4 := pw_cell_below HB.out hx267_4
             replace hx267_5 := pw_cell_below HB.out hx267_5
             replace p267 := eq_true p267
             replace q267 := eq_true q267
             refine start_ (n := 15) (S := fun w' => w'.cell? (ad264.add ((x12_1).toNat * 6)) = some (.int .i64 ((rd_T58 l2 x12_1).f0)) ∧ w'.cell? ⟨(ad264.add ((x12_1).toNat * 6)).block, (ad264.add ((x12_1).toNat * 6)).off + 1, none⟩ = some (.int .i64 ((rd_T58 l2 x12_1).f1)) ∧ w'.cell? ⟨(ad264.add ((x12_1).toNat * 6)).block, (ad264.add ((x12_1).toNat * 6)).off + 2, none⟩ = some (.float .f64 ((rd_T58 l2 x12_1).f2)) ∧ w'.cell? ⟨(ad264.add ((x12_1).toNat * 6)).block, (ad264.add ((x12_1).toNat * 6)).off + 3, none⟩ = some (.int .i64 ((rd_T58 l2 x12_1).f3)) ∧ w'.cell? ⟨(ad264.add ((x12_1).toNat * 6)).block, (ad264.add ((x12_1).toNat * 6)).off + 4, none⟩ = some (.float .f64 ((rd_T58 l2 x12_1).f4)) ∧ w'.cell? ⟨(ad264.add ((x12_1).toNat * 6)).block, (ad264.add ((x12_1).toNat * 6)).off + 5, none⟩ = some (.int .i64 ((rd_T58 l2 x12_1).f5)) ∧ w'.cell? (ad264.add ((x12_1).toNat * 6)) = some (.int .i64 ((rd_T58 l2 x12_1).f0)) ∧ w'.cell? ⟨(ad264.add ((x12_1).toNat * 6)).block, (ad264.add ((x12_1).toNat * 6)).off + 1, none⟩ = some (.int .i64 ((rd_T58 l2 x12_1).f1)) ∧ w'.cell? ⟨(ad264.add ((x12_1).toNat * 6)).block, (ad264.add ((x12_1).toNat * 6)).off + 2, none⟩ = some (.float .f64 ((rd_T58 l2 x12_1).f2)) ∧ w'.cell? ⟨(ad264.add ((x12_1).toNat * 6)).block, (ad264.add ((x12_1).toNat * 6)).off + 3, none⟩ = some (.int .i64 ((rd_T58 l2 x12_1).f3)) ∧ w'.cell? ⟨(ad264.add ((x12_1).toNat * 6)).block, (ad264.add ((x12_1).toNat * 6)).off + 4, none⟩ = some (.float .f64 ((rd_T58 l2 x12_1).f4)) ∧ w'.cell? ⟨(ad264.add ((x12_1).toNat * 6)).block, (ad264.add ((x12_1).toNat * 6)).off + 5, none⟩ = some (.int .i64 ((rd_T58 l2 x12_1).f5))) (ds := []) (bz 15 0) (by kernel_rfl) rfl rfl ⟨((HB.out.cell (World.block_lt_of_cell? w _ hw266_0)).trans hw266_0), ((HB.out.cell (World.block_lt_of_cell? w _ hw266_1)).trans hw266_1), ((HB.out.cell (World.block_lt_of_cell? w _ hw266_2)).trans hw266_2), ((HB.out.cell (World.block_lt_of_cell? w _ hw266_3)).trans hw266_3), ((HB.out.cell (World.block_lt_of_cell? w _ hw266_4)).trans hw266_4), ((HB.out.cell (World.block_lt_of_cell? w _ hw266_5)).trans hw266_5), ((HB.out.cell (World.block_lt_of_cell? w _ hw267_0)).trans hw267_0), ((HB.out.cell (World.block_lt_of_cell? w _ hw267_1)).trans hw267_1), ((HB.out.cell (World.block_lt_of_cell? w _ hw267_2)).trans hw267_2), ((HB.out.cell (World.block_lt_of_cell? w _ hw267_3)).trans hw267_3), ((HB.out.cell (World.block_lt_of_cell? w _ hw267_4)).trans hw267_4), ((HB.out.cell (World.block_lt_of_cell? w _ hw267_5)).trans hw267_5)⟩ (fun hHeld => ?_); refine with_tabW beaconref15_Tell.tab13 beaconref15_Tell.bits13 (fun HT_ HW_ => ?_)
             generalize wc.drew = w25 at HO_10 BK256 HB hx266_0 hx266_1 hx266_2 hx266_3 hx266_4 hx266_5 hx267_0 hx267_1 hx267_2 hx267_3 hx267_4 hx267_5 hHeld ⊢
             refine pu2 0 (some 52) (bz 15 1) ?_
             refine pu2 1 (some 53) (bz 15 3) ?_
             refine pu2 2 (some 54) (bz 15 7) ?_
             refine pu2 3 (some 55) (bz 15 15) ?_
             refine pu2 4 (some 56) (bz 15 31) ?_
             refine pu2 6 (some 58) (bz 15 95) ?_
             refine pu2 7 (some 59) (bz 15 223) ?_
             refine pu2 8 (some 60) (bz 15 479) ?_
             refine pu2 9 (some 61) (bz 15 991) ?_
             refine tk2 5 (some 57) (bz 15 1023) ?_
             refine tk2 10 (some 62) (bz 15 2047) ?_
             refine pu2 11 (some 63) (bz 15 4095) ?_
             refine one_ (i := 12) (N := some 64) (bz 15 8191) rfl rfl (one_of HT_.out (by kernel_rfl)) (by decide) (fun K hK => ?_)
             refine value_ (w1 := ?_) (v := ?_) (by rfl) rfl ?_ ?_
             rotate_left 2
             ·go_simp
              constructor
              ·rfl
              ·rfl
             refine hK.out _ _ ⟨(World.cell?_alloc_lt _ _ _ (World.block_lt_of_cell? _ _ (((HB.out.cell (World.block_lt_of_cell? w _ hw266_0)).trans hw266_0)))).trans (((HB.out.cell (World.block_lt_of_cell? w _ hw266_0)).trans hw266_0)), (World.cell?_alloc_lt _ _ _ (World.block_lt_of_cell? _ _ (((HB.out.cell (World.block_lt_of_cell? w _ hw266_1)).trans hw266_1)))).trans (((HB.out.cell (World.block_lt_of_cell? w _ hw266_1)).trans hw266_1)), (World.cell?_alloc_lt _ _ _ (World.block_lt_of_cell? _ _ (((HB.out.cell (World.block_lt_of_cell? w _ hw266_2)).trans hw266_2)))).trans (((HB.out.cell (World.block_lt_of_cell? w _ hw266_2)).trans hw266_2)), (World.cell?_alloc_lt _ _ _ (World.block_lt_of_cell? _ _ (((HB.out.cell (World.block_lt_of_cell? w _ hw266_3)).trans hw266_3)))).trans (((HB.out.cell (World.block_lt_of_cell? w _ hw266_3)).trans hw266_3)), (World.cell?_alloc_lt _ _ _ (World.block_lt_of_cell? _ _ (((HB.out.cell (World.block_lt_of_cell? w _ hw266_4)).trans hw266_4)))).trans (((HB.out.cell (World.block_lt_of_cell? w _ hw266_4)).trans hw266_4)), (World.cell?_alloc_lt _ _ _ (World.block_lt_of_cell? _ _ (((HB.out.cell (World.block_lt_of_cell? w _ hw266_5)).trans hw266_5)))).trans (((HB.out.cell (World.block_lt_of_cell? w _ hw266_5)).trans hw266_5)), (World.cell?_alloc_lt _ _ _ (World.block_lt_of_cell? _ _ (((HB.out.cell (World.block_lt_of_cell? w _ hw267_0)).trans hw267_0)))).trans (((HB.out.cell (World.block_lt_of_cell? w _ hw267_0)).trans hw267_0)), (World.cell?_alloc_lt _ _ _ (World.block_lt_of_cell? _ _ (((HB.out.cell (World.block_lt_of_cell? w _ hw267_1)).trans hw267_1)))).trans (((HB.out.cell (World.block_lt_of_cell? w _ hw267_1)).trans hw267_1)), (World.cell?_alloc_lt _ _ _ (World.block_lt_of_cell? _ _ (((HB.out.cell (World.block_lt_of_cell? w _ hw267_2)).trans hw267_2)))).trans (((HB.out.cell (World.block_lt_of_cell? w _ hw267_2)).trans hw267_2)), (World.cell?_alloc_lt _ _ _ (World.block_lt_of_cell? _ _ (((HB.out.cell (World.block_lt_of_cell? w _ hw267_3)).trans hw267_3)))).trans (((HB.out.cell (World.block_lt_of_cell? w _ hw267_3)).trans hw267_3)), (World.cell?_alloc_lt _ _ _ (World.block_lt_of_cell? _ _ (((HB.out.cell (World.block_lt_of_cell? w _ hw267_4)).trans hw267_4)))).trans (((HB.out.cell (World.block_lt_of_cell? w _ hw267_4)).trans hw267_4)), (World.cell?_alloc_lt _ _ _ (World.block_lt_of_cell? _ _ (((HB.out.cell (World.block_lt_of_cell? w _ hw267_5)).trans hw267_5)))).trans (((HB.out.cell (World.block_lt_of_cell? w _ hw267_5)).trans hw267_5))⟩ (fun hHeld => ?_)
             clear hK K
             refine norm_ (a' := ?_) ?_ ?_; rotate_left; show Act.put _ (some 64) _ = _; simp only [Act.put, qa, qb, qc, i64_w, i32_w]; rfl
             refine one_ (i := 13) (N := some 65) (bz 15 16383) rfl rfl (one_of HT_.out (by kernel_rfl)) (by decide) (fun K hK => ?_)
             refine Kd.R_append_step k56 (w0 := w) w.heap.size (by rfl) (.tmp 52) (.tmp 64) 35 56 (.agg #[(.int .i64 0), (.int .i64 0), (.float .f64 0), (.float .f64 0), (.int .i64 0)]) 40 rfl Try.underlying35 info56 rfl (by decide) (by omega) u10 x10_14 (⟨(rd_T58 l2 x12_1).f0, 1, (rd_T58 l2 x12_1).f2, 0, 0⟩ : S56) [.int .i64 ((rd_T58 l2 x12_1).f0), .int .i64 1, .float .f64 ((rd_T58 l2 x12_1).f2), .float .f64 0, .int .i64 0] (fun k_ => k_ ≠ gb256) (fun _ => False) rfl rfl ?aP (fun _ hk => hk.elim) ?aF ?aO ?aB ?aS ?aL ?_
             (case aP => exact k56_mkM _ _ _ (⟨(rd_T58 l2 x12_1).f0, 1, (rd_T58 l2 x12_1).f2, 0, 0⟩ : S56))
             (case aB => exact (fb1 GE256))
             (case aF => exact (fun k_ hk => Kd.freshB (g := gb256) (o := .cells #[.int .i64 a0, .int .i64 1, .float .f64 0, .float .f64 0, .int .i64 0] 56 (0, 0)) (kp BK256.out) k_ hk))
             (case aO => exact (by (with_reducible repeat (first | apply Kd.R_alloc | apply Kd.R_drewN | apply Kd.R_drew)); exact HO_10.out))
             (case aS => exact (below_size (fb1 GE256)))
             (case aL => have := LMc24.out; omega)
             intro v269 w26 ho hb hg hat
             rw [← Ny268.out] at ho
             have n0_ := Aside0.mk (blk_grown (g := gb256) (o := .cells #[.int .i64 a0, .int .i64 1, .float .f64 0, .float .f64 0, .int .i64 0] 56 (0, 0)) (kp BK256.out) hg (Kd.R_away HO_10.out (fun _ hk => hk)))
             have n1_ := Aside0.mk (hb)
             have n2_ := Aside0.mk (ho)
             clear BK256
             clear HB
             clear HO_10
             have BK256 := n0_
             have HB := n1_
             have HO270 := n2_
             clear n0_ n1_ n2_
             clear ho hb hg hat
             refine hK.out _ _ ⟨((HB.out.cell (World.block_lt_of_cell? w _ hw266_0)).trans hw266_0), ((HB.out.cell (World.block_lt_of_cell? w _ hw266_1)).trans hw266_1), ((HB.out.cell (World.block_lt_of_cell? w _ hw266_2)).trans hw266_2), ((HB.out.cell (World.block_lt_of_cell? w _ hw266_3)).trans hw266_3), ((HB.out.cell (World.block_lt_of_cell? w _ hw266_4)).trans hw266_4), ((HB.out.cell (World.block_lt_of_cell? w _ hw266_5)).trans hw266_5), ((HB.out.cell (World.block_lt_of_cell? w _ hw267_0)).trans hw267_0), ((HB.out.cell (World.block_lt_of_cell? w _ hw267_1)).trans hw267_1), ((HB.out.cell (World.block_lt_of_cell? w _ hw267_2)).trans hw267_2), ((HB.out.cell (World.block_lt_of_cell? w _ hw267_3)).trans hw267_3), ((HB.out.cell (World.block_lt_of_cell? w _ hw267_4)).trans hw267_4), ((HB.out.cell (World.block_lt_of_cell? w _ hw267_5)).trans hw267_5)⟩ (fun hHeld => ?_)
             clear hK K
             refine norm_ (a' := ?_) ?_ ?_; rotate_left; show Act.put _ (some 65) _ = _; simp only [Act.put, qa, qb, qc, i64_w, i32_w]; rfl
             refine pu2 14 (some 10) (bz 15 32767) ?_
             refine done_ (done_of HT_.out (by kernel_rfl)) ?_
             try go_wp2
             go_roundg kj14
             case measure => have := HK1.out; have := HJ11.out; have := HJ14.out; omega
             case rel => exact ⟨(y268), (x11_14), (wrap64 (x12_1 + 1)), fz, fz, H', ⟨by have := HK1.out; have := HJ11.out; have := HJ14.out; omega⟩, ⟨by (with_reducible repeat (first | apply Kd.R_alloc | apply Kd.R_drewN | apply Kd.R_drew)); exact HO270.out⟩, ⟨kp BK256.out⟩, ⟨fb1 GE256⟩⟩
            ·rw [if_neg c24] at H
             exact absurd H (by simp)
          ·rw [if_neg c21] at H
           exact absurd H (by simp)
         ·rw [if_neg c20] at H
          exact absurd H (by simp)
    ·rw [if_neg c11] at H
     have c11b0 := decide_eq_false c11
     clear c11
     by_cases c27 : x11_1 = true
     ·subst c27
      have H1 : (some (x10_1, 0)) = some (r1, r2) := by rw [if_pos rfl] at H; exact H
      clear H
      have H := H1
      clear H1
      simp only [Option.some.injEq, Prod.mk.injEq] at H
      obtain ⟨rfl, rfl⟩ := H
      go_wp2
      go_ret2
      exact ⟨_, by first | rfl | (simp [errW_none, errW_some] <;> rfl) | (simp [*, errW_none, errW_some] <;> rfl), by (with_reducible repeat (first | apply Kd.R_alloc | apply Kd.R_drewN | apply Kd.R_drew)); exact Kd.R_mono HO_10.out (fun _ hk => trivial), fb1 GE256⟩
     ·obtain rfl := bf_ c27
      have H1 : (if x10_1.length < 3518437208883 then (some ((x10_1 ++ [(⟨a0, 1, 0, 0, 0⟩ : S56)]), 0)) else (none)) = some (r1, r2) := by rw [if_neg (show ¬ (false = true) by decide)] at H; exact H
      clear H
      have H := H1
      clear H1
      by_cases c28 : x10_1.length < 3518437208883
      ·rw [if_pos c28] at H
       have LMc28 := Aside0.mk c28
       clear c28
       obtain ⟨y271, hy271⟩ : ∃ y_ : List (S56), y_ = (x10_1 ++ [(⟨a0, 1, 0, 0, 0⟩ : S56)]) := ⟨_, rfl⟩
       replace H : (some (y271, 0)) = some (r1, r2) := by first | (rw [hy271]; with_reducible exact H) | (have H2_ := (Option.bind_some _ _).symm.trans H; rw [hy271]; with_reducible exact H2_) | (have H2_ := (Option.bind_some _ _).symm.trans H; with_reducible exact H2_) | with_reducible exact H | (rw [hy271]; exact H) | exact H
       have Ny271 := Aside0.mk hy271
       clear hy271
       simp only [Option.some.injEq, Prod.mk.injEq] at H
       obtain ⟨rfl, rfl⟩ := H
       obtain ⟨hcz29_0, hcz29_1, hcz29_2, hcz29_3, hcz29_4, hfz29_0, hfz29_1, hfz29_2, hfz29_3, hfz29_4⟩ := cz5 BK256.out
       go_wp2_with (first | ((with_reducible refine gate_builtin (b := .append) (xs := #[.tmp 68, .tmp 70]) rfl ?_); at_builtin; refine Kd.R_append k56 (w0 := w) w.heap.size rfl (.tmp 68) (.tmp 70) 35 56 (.agg #[(.int .i64 0), (.int .i64 0), (.float .f64 0), (.float .f64 0), (.int .i64 0)]) 40 rfl Try.underlying35 info56 rfl (by decide) (by omega) u10 x10_1 (⟨a0, 1, 0, 0, 0⟩ : S56) [.int .i64 a0, .int .i64 1, .float .f64 0, .float .f64 0, .int .i64 0] (fun k_ => k_ ≠ gb256) (fun _ => False) rfl rfl ?aP (fun _ hk => hk.elim) ?aF ?aO ?aB ?aS ?aL ?_; (case aP => exact k56_mkM _ _ _ (⟨a0, 1, 0, 0, 0⟩ : S56)); (case aB => exact (fb1 GE256)); (case aF => exact (fun k_ hk => Kd.freshB (g := gb256) (o := .cells #[.int .i64 a0, .int .i64 1, .float .f64 0, .float .f64 0, .int .i64 0] 56 (0, 0)) (kp BK256.out) k_ hk)); (case aO => exact (by (with_reducible repeat (first | apply Kd.R_alloc | apply Kd.R_drewN | apply Kd.R_drew)); exact HO_10.out)); (case aS => exact (below_size (fb1 GE256))); (case aL => have := LMc28.out; omega); intro v272 w30 ho hb hg hat; rw [← Ny271.out] at ho; have n0_ := Aside0.mk (blk_grown (g := gb256) (o := .cells #[.int .i64 a0, .int .i64 1, .float .f64 0, .float .f64 0, .int .i64 0] 56 (0, 0)) (kp BK256.out) hg (Kd.R_away HO_10.out (fun _ hk => hk))); have n1_ := Aside0.mk (hb); have n2_ := Aside0.mk (ho); clear BK256; clear HB; clear HO_10; have BK256 := n0_; have HB := n1_; have HO273 := n2_; clear n0_ n1_ n2_; clear ho hb hg hat))
       go_ret2
       exact ⟨_, by first | rfl | (simp [errW_none, errW_some] <;> rfl) | (simp [*, errW_none, errW_some] <;> rfl), by (with_reducible repeat (first | apply Kd.R_alloc | apply Kd.R_drewN | apply Kd.R_drew)); exact Kd.R_mono HO273.out (fun _ hk => trivial), fb1 GE256⟩
      ·rw [if_neg c28] at H
       exact absurd H (by simp)
 ·rw [if_neg c5] at H
  have c5b0 := bh_ c5
  have c5b1 := bi_ c5
  simp only [Option.some.injEq, Prod.mk.injEq] at H
  obtain ⟨rfl, rfl⟩ := H
  go_enter Try.func31, Try.ntmps31
  go_wp2_with (first | ((with_reducible refine gate_callee (f := 65) rfl ?_); refine gl_ (some 15) Try.func65 #[.int .i64 a0, .slice A2 l2.length c2] ?_; (with_reducible refine (beaconref15_may.calls k a0 _ _ l2 t255 _ ?side1 ?side2 A4.out).mono ?_); (case side1 => repeat (first | exact HR2.out | (with_reducible refine Kd.C_alloc ?_ _) | (with_reducible refine Kd.C_drewN ?_ _) | (with_reducible refine Kd.C_drew ?_))); (case side2 => exact HC2.out); rintro e w31 ⟨rfl, hb⟩; refine ⟨_, rfl, ?_⟩; replace HB := Aside0.mk (below_step fb hb); (try clear hb)))
  go_ret2
  exact ⟨_, by first | rfl | (simp [errW_none, errW_some] <;> rfl) | (simp [*, errW_none, errW_some] <;> rfl), by first | exact Kd.R_nil _ _ _ _ _ | exact Kd.N_nil _ _ _ _ _ | exact Kd.V_nil _ _ _ _ _ | exact Kd.Q_nil _ _ _ _ _ | exact Kd.S_nil _ _ _ _ _, fb⟩

end Go.Proofs.Ytjkhckbfkinheaa.GLt
