-- written by a program of this session (wip/pp): see NOTES.md
import Derived.Test.YtjkhckbfkinheaaGAax0
import Derived.Test.YtjkhckbfkinheaaGAax2
import Derived.Test.YtjkhckbfkinheaaGAax7
import Derived.Test.YtjkhckbfkinheaaHBallsAa
namespace Go.Proofs.Ytjkhckbfkinheaa.GAa
open Go.RowKit Go.Proofs.YtjkhckbfkinheaaW.PrintWords Go.Proofs.YtjkhckbfkinheaaW.PrintLast Go.Proofs.YtjkhckbfkinheaaW.PrintMore
attribute [local go_sem] max2_int min2_int max_two min_two max_three min_three max_four min_four   -- for this text's walks alone
attribute [local go_sem high] binOp_flss binOp_fgtr binOp_fleq binOp_fgeq binOp_feql binOp_fneq run_fadd run_fsub run_fmul run_fquo unary_fneg run_ftoint run_fofint run_feqIn ext_bits ext_frombits ext_trunc
set_option linter.unusedVariables false
set_option linter.unusedSimpArgs false

-- GIVEN: function 9 (scopedv_Balls)

/-! ### beaconlaw16_awake: function 12 -/
noncomputable def beaconlaw16_awake.f  : Option (Bool) := (scopedv_Balls.f 1 (([(⟨2, 4607182418800017408, (([(⟨9, 2, 4611686018427387904, 4616189618054758400, 7⟩ : S56)] : List (S56)))⟩ : S54)] : List (S54))) 4636737291354636288).bind fun bt495 => (if bt495.2 = 0 then (if (bt495.1.length : Int) = 1 then (if 0 < (bt495.1.length : Int) then (if ((rd_T58 bt495.1 0).f0) = 9 then (if (fEq ((rd_T58 bt495.1 0).f2) 4613937818241073152) = true then (some (((rd_T58 bt495.1 0).f3) == 2)) else (some false)) else (some false)) else (none)) else (some false)) else (some false))
set_option maxHeartbeats 8000000 in
set_option maxRecDepth 100000 in
theorem beaconlaw16_awake.calls  (r : Bool) (w : World) (h : beaconlaw16_awake.f  = some r) :
  Calls Try.prog 12 #[] w fun e w' => e = .returned (.bool r) ∧ Below w.heap.size w w' := by
 have hu56 := Try.underlying56
 have hu54 := Try.underlying54
 have HB := Aside0.mk (Below.refl w.heap.size w)
 have H : ((scopedv_Balls.f 1 (([(⟨2, 4607182418800017408, (([(⟨9, 2, 4611686018427387904, 4616189618054758400, 7⟩ : S56)] : List (S56)))⟩ : S54)] : List (S54))) 4636737291354636288).bind fun bt495 => (if bt495.2 = 0 then (if (bt495.1.length : Int) = 1 then (if 0 < (bt495.1.length : Int) then (if ((rd_T58 bt495.1 0).f0) = 9 then (if (fEq ((rd_T58 bt495.1 0).f2) 4613937818241073152) = true then (some (((rd_T58 bt495.1 0).f3) == 2)) else (some false)) else (some false)) else (none)) else (some false)) else (some false))) = some r := h
 clear h
 obtain ⟨y489, hy489⟩ : ∃ y_ : List (S56), y_ = (([(⟨9, 2, 4611686018427387904, 4616189618054758400, 7⟩ : S56)] : List (S56))) := ⟨_, rfl⟩
 replace H : ((scopedv_Balls.f 1 (([(⟨2, 4607182418800017408, y489⟩ : S54)] : List (S54))) 4636737291354636288).bind fun bt495 => (if bt495.2 = 0 then (if (bt495.1.length : Int) = 1 then (if 0 < (bt495.1.length : Int) then (if ((rd_T58 bt495.1 0).f0) = 9 then (if (fEq ((rd_T58 bt495.1 0).f2) 4613937818241073152) = true then (some (((rd_T58 bt495.1 0).f3) == 2)) else (some false)) else (some false)) else (none)) else (some false)) else (some false))) = some r := by first | (rw [hy489]; with_reducible exact H) | (have H2_ := (Option.bind_some _ _).symm.trans H; rw [hy489]; with_reducible exact H2_) | (have H2_ := (Option.bind_some _ _).symm.trans H; with_reducible exact H2_) | with_reducible exact H | (rw [hy489]; exact H) | exact H
 have Ny489 := Aside0.mk hy489
 clear hy489
 obtain ⟨y492, hy492⟩ : ∃ y_ : List (S54), y_ = (([(⟨2, 4607182418800017408, y489⟩ : S54)] : List (S54))) := ⟨_, rfl⟩
 replace H : ((scopedv_Balls.f 1 y492 4636737291354636288).bind fun bt495 => (if bt495.2 = 0 then (if (bt495.1.length : Int) = 1 then (if 0 < (bt495.1.length : Int) then (if ((rd_T58 bt495.1 0).f0) = 9 then (if (fEq ((rd_T58 bt495.1 0).f2) 4613937818241073152) = true then (some (((rd_T58 bt495.1 0).f3) == 2)) else (some false)) else (some false)) else (none)) else (some false)) else (some false))) = some r := by first | (rw [hy492]; with_reducible exact H) | (have H2_ := (Option.bind_some _ _).symm.trans H; rw [hy492]; with_reducible exact H2_) | (have H2_ := (Option.bind_some _ _).symm.trans H; with_reducible exact H2_) | with_reducible exact H | (rw [hy492]; exact H) | exact H
 have Ny492 := Aside0.mk hy492
 clear hy492
 replace H := Option.bind_eq_some_iff.mp H
 obtain ⟨⟨t495, t496⟩, A10, H⟩ := H
 replace H : (if t496 = 0 then (if (t495.length : Int) = 1 then (if 0 < (t495.length : Int) then (if ((rd_T58 t495 0).f0) = 9 then (if (fEq ((rd_T58 t495 0).f2) 4613937818241073152) = true then (some (((rd_T58 t495 0).f3) == 2)) else (some false)) else (some false)) else (none)) else (some false)) else (some false)) = some r := H
 have A1 := Aside0.mk A10
 clear A10
 by_cases c2 : t496 = 0
 ·rw [if_pos c2] at H
  have c2b0 := be_ c2
  have c2b1 := bg_ c2
  clear c2
  by_cases c3 : (t495.length : Int) = 1
  ·rw [if_pos c3] at H
   have c3b0 := be_ c3
   have c3b1 := bg_ c3
   clear c3
   by_cases c4 : 0 < (t495.length : Int)
   ·rw [if_pos c4] at H
    have c4b0 := decide_eq_true c4
    have c4b1 : decide (0 < t495.length) = true := decide_eq_true (by omega)
    clear c4
    by_cases c5 : ((rd_T58 t495 0).f0) = 9
    ·rw [if_pos c5] at H
     have c5b0 := be_ c5
     have c5b1 := bg_ c5
     clear c5
     by_cases c6 : (fEq ((rd_T58 t495 0).f2) 4613937818241073152) = true
     ·rw [if_pos c6] at H
      have c6b0 : (fEq ((rd_T58 t495 0).f2) 4613937818241073152) = true := c6
      clear c6
      obtain rfl := oj_ H
      go_enter Try.func12, Try.ntmps12
      go_wp2_with (first | ((with_reducible refine gate_dst (N := 5) rfl ?_); (try (refine gate_guard (by rfl) ?_; dsimp only)); refine Kd.R_lit k56 _ 56 ?hg (N := 5) ?hd (xs := ([(⟨9, 2, 4611686018427387904, 4616189618054758400, 7⟩ : S56)] : List (S56))) (inner := [.int .i64 9, .int .i64 2, .float .f64 4611686018427387904, .float .f64 4616189618054758400, .int .i64 7]) (ok := fun _ => True) (okp := fun _ => True) ?hr ?hp (fun _ hk => hk) trivial (Below.refl _ _) (Nat.le_refl _) (by simp) ?_; (case hd => rfl); (case hg => rfl); (case hr => first | (go_simp; done) | (go_simp; rfl)); (case hp => exact (Reps.c5 (show Kd.M k56 _ _ _ (⟨9, 2, 4611686018427387904, 4616189618054758400, 7⟩ : S56) [.int .i64 9, .int .i64 2, .float .f64 4611686018427387904, .float .f64 4616189618054758400, .int .i64 7] from (k56_mkM _ _ _ (⟨9, 2, 4611686018427387904, 4616189618054758400, 7⟩ : S56) )) (Reps.none _ _))); intro v490 w7 ho8 hb hg_ hnew_; clear hg_ hnew_; (first | rw [← Ny489.out] at ho8 | (simp only [Int.reduceToNat] at ho8; rw [← Ny489.out] at ho8)); have n0_ := Aside0.mk (Kd.R_lower ho8 (below_size fb)); have n1_ := Aside0.mk (below_step fb hb); clear HB; have HO491 := n0_; have HB := n1_; clear n0_ n1_; clear hb ho8; obtain ⟨Ao9, co9, eo9⟩ := Kd.R_slice HO491.out; subst eo9) | ((with_reducible refine gate_dst (N := 7) rfl ?_); (try (refine gate_guard (by rfl) ?_; dsimp only)); refine Kd.N_lit k54 _ 54 ?hg (N' := 7) ?hd (xs := ([(⟨2, 4607182418800017408, y489⟩ : S54)] : List (S54))) (inner := [.int .i64 2, .float .f64 4607182418800017408, .slice Ao9 y489.length co9]) (ok := (fun _ => True)) (okp := (fun _ => True)) ?hr ?hp (fun _ hk => hk) ((show ∀ k_, w7.heap.size ≤ k_ → (fun _ => True) k_ from fun k_ hk => trivial) _ (Nat.le_refl _)) (Below.refl _ _) (Nat.le_refl _) (by simp) ?_; (case hd => rfl); (case hg => rfl); (case hr => first | (go_simp; done) | (go_simp; rfl)); (case hp => exact (Reps.c3 (show Kd.FK k54 _ _ (⟨2, 4607182418800017408, y489⟩ : S54) [.int .i64 2, .float .f64 4607182418800017408, .slice Ao9 y489.length co9] from (k54_mkF _ _ (⟨2, 4607182418800017408, y489⟩ : S54) (Kd.R_reads' (Kd.R_mono (ok' := (fun _ => True)) (HO491.out) (fun k_ hk => trivial))).2.1 (Kd.R_F (Kd.R_mono (ok' := (fun _ => True)) (HO491.out) (fun k_ hk => trivial))))) (Reps.none _ _))); intro v493 w10 ho11 hb hg_ hnew_; clear hg_ hnew_; (first | rw [← Ny492.out] at ho11 | (simp only [Int.reduceToNat] at ho11; rw [← Ny492.out] at ho11)); have n0_ := Aside0.mk (Kd.N_lower ho11 (below_size fb)); have n1_ := Aside0.mk (below_step fb hb); clear HB; clear HO491; have HO494 := n0_; have HB := n1_; clear n0_ n1_; clear hb ho11; obtain ⟨Ao12, co12, eo12⟩ := Kd.N_slice HO494.out; subst eo12) | ((with_reducible refine gate_callee (f := 9) rfl ?_); refine gl_ (some 8) Try.func9 #[.int .i64 1, .slice Ao12 y492.length co12, .float .f64 4636737291354636288] ?_; (with_reducible refine (scopedv_Balls.calls 1 _ _ y492 4636737291354636288 t495 t496 _ ?side1 ?side2 A1.out).mono ?_); (case side1 => repeat (first | exact (Kd.N_reads' HO494.out).2.2 | (with_reducible refine Kd.C_alloc ?_ _) | (with_reducible refine Kd.C_drewN ?_ _) | (with_reducible refine Kd.C_drew ?_))); (case side2 => exact (Kd.N_reads' HO494.out).2.1); rintro e w13 ⟨v497, rfl, ho0, hb⟩; refine ⟨_, rfl, ?_⟩; have n0_ := Aside0.mk (Kd.N_elder' (by (with_reducible repeat (first | apply Kd.N_alloc | apply Kd.N_drewN | apply Kd.N_drew)); exact HO494.out) (Kd.R_base ho0) hb); have n1_ := Aside0.mk (Kd.R_lower ho0 (below_size fb)); have n2_ := Aside0.mk (below_step fb hb); clear HO494; clear HB; have HO494 := n0_; have HO498 := n1_; have HB := n2_; clear n0_ n1_ n2_; (try clear hb); (try clear hk); (try clear ho0); obtain ⟨Ao14, co14, eo14⟩ := Kd.R_slice HO498.out; subst eo14; have p499 : 0 ≤ (0 : Int) := (by omega); have q499 : 0 < (t495.length : Int) := of_decide_eq_true (by first | (with_reducible assumption) | assumption); obtain ⟨ad499, e499, hx499_0, hx499_1, hx499_2, hx499_3, hx499_4, hx499_5⟩ := at_T58 (Kd.R_reads' HO498.out).2.2 0 p499 q499; cases e499; have qi499 : (0 < t495.length) = True := eq_true (by omega); (try rw [show ((0 : Int)).toNat = 0 from rfl] at hx499_0); (try rw [show 0 * 6 = 0 from rfl] at hx499_0); (try rw [Addr.add_zero'] at hx499_0); (try rw [show ((0 : Int)).toNat = 0 from rfl] at hx499_1); (try rw [show 0 * 6 = 0 from rfl] at hx499_1); (try rw [Addr.add_zero'] at hx499_1); (try rw [show ((0 : Int)).toNat = 0 from rfl] at hx499_2); (try rw [show 0 * 6 = 0 from rfl] at hx499_2); (try rw [Addr.add_zero'] at hx499_2); (try rw [show ((0 : Int)).toNat = 0 from rfl] at hx499_3); (try rw [show 0 * 6 = 0 from rfl] at hx499_3); (try rw [Addr.add_zero'] at hx499_3); (try rw [show ((0 : Int)).toNat = 0 from rfl] at hx499_4); (try rw [show 0 * 6 = 0 from rfl] at hx499_4); (try rw [Addr.add_zero'] at hx499_4); (try rw [show ((0 : Int)).toNat = 0 from rfl] at hx499_5); (try rw [show 0 * 6 = 0 from rfl] at hx499_5); (try rw [Addr.add_zero'] at hx499_5); replace p499 := eq_true p499; replace q499 := eq_true q499; have p500 : 0 ≤ (0 : Int) := (by omega); have q500 : 0 < (t495.length : Int) := of_decide_eq_true (by first | (with_reducible assumption) | assumption); obtain ⟨ad500, e500, hx500_0, hx500_1, hx500_2, hx500_3, hx500_4, hx500_5⟩ := at_T58 (Kd.R_reads' HO498.out).2.2 0 p500 q500; obtain rfl : ad499 = ad500 := (by injection e500); have qi500 : (0 < t495.length) = True := eq_true (by omega); (try rw [show ((0 : Int)).toNat = 0 from rfl] at hx500_0); (try rw [show 0 * 6 = 0 from rfl] at hx500_0); (try rw [Addr.add_zero'] at hx500_0); (try rw [show ((0 : Int)).toNat = 0 from rfl] at hx500_1); (try rw [show 0 * 6 = 0 from rfl] at hx500_1); (try rw [Addr.add_zero'] at hx500_1); (try rw [show ((0 : Int)).toNat = 0 from rfl] at hx500_2); (try rw [show 0 * 6 = 0 from rfl] at hx500_2); (try rw [Addr.add_zero'] at hx500_2); (try rw [show ((0 : Int)).toNat = 0 from rfl] at hx500_3); (try rw [show 0 * 6 = 0 from rfl] at hx500_3); (try rw [Addr.add_zero'] at hx500_3); (try rw [show ((0 : Int)).toNat = 0 from rfl] at hx500_4); (try rw [show 0 * 6 = 0 from rfl] at hx500_4); (try rw [Addr.add_zero'] at hx500_4); (try rw [show ((0 : Int)).toNat = 0 from rfl] at hx500_5); (try rw [show 0 * 6 = 0 from rfl] at hx500_5); (try rw [Addr.add_zero'] at hx500_5); replace p500 := eq_true p500; replace q500 := eq_true q500; have p501 : 0 ≤ (0 : Int) := (by omega); have q501 : 0 < (t495.length : Int) := of_decide_eq_true (by first | (with_reducible assumption) | assumption); obtain ⟨ad501, e501, hx501_0, hx501_1, hx501_2, hx501_3, hx501_4, hx501_5⟩ := at_T58 (Kd.R_reads' HO498.out).2.2 0 p501 q501; obtain rfl : ad499 = ad501 := (by injection e501); have qi501 : (0 < t495.length) = True := eq_true (by omega); (try rw [show ((0 : Int)).toNat = 0 from rfl] at hx501_0); (try rw [show 0 * 6 = 0 from rfl] at hx501_0); (try rw [Addr.add_zero'] at hx501_0); (try rw [show ((0 : Int)).toNat = 0 from rfl] at hx501_1); (try rw [show 0 * 6 = 0 from rfl] at hx501_1); (try rw [Addr.add_zero'] at hx501_1); (try rw [show ((0 : Int)).toNat = 0 from rfl] at hx501_2); (try rw [show 0 * 6 = 0 from rfl] at hx501_2); (try rw [Addr.add_zero'] at hx501_2); (try rw [show ((0 : Int)).toNat = 0 from rfl] at hx501_3); (try rw [show 0 * 6 = 0 from rfl] at hx501_3); (try rw [Addr.add_zero'] at hx501_3); (try rw [show ((0 : Int)).toNat = 0 from rfl] at hx501_4); (try rw [show 0 * 6 = 0 from rfl] at hx501_4); (try rw [Addr.add_zero'] at hx501_4); (try rw [show ((0 : Int)).toNat = 0 from rfl] at hx501_5); (try rw [show 0 * 6 = 0 from rfl] at hx501_5); (try rw [Addr.add_zero'] at hx501_5); replace p501 := eq_true p501; replace q501 := eq_true q501))
      go_ret
      exact ⟨fe, fb⟩
     ·rw [if_neg c6] at H
      have c6b0 := bf_ c6
      clear c6
      obtain rfl := oj_ H
      go_enter Try.func12, Try.ntmps12
      go_wp2_with (first | ((with_reducible refine gate_dst (N := 5) rfl ?_); (try (refine gate_guard (by rfl) ?_; dsimp only)); refine Kd.R_lit k56 _ 56 ?hg (N := 5) ?hd (xs := ([(⟨9, 2, 4611686018427387904, 4616189618054758400, 7⟩ : S56)] : List (S56))) (inner := [.int .i64 9, .int .i64 2, .float .f64 4611686018427387904, .float .f64 4616189618054758400, .int .i64 7]) (ok := fun _ => True) (okp := fun _ => True) ?hr ?hp (fun _ hk => hk) trivial (Below.refl _ _) (Nat.le_refl _) (by simp) ?_; (case hd => rfl); (case hg => rfl); (case hr => first | (go_simp; done) | (go_simp; rfl)); (case hp => exact (Reps.c5 (show Kd.M k56 _ _ _ (⟨9, 2, 4611686018427387904, 4616189618054758400, 7⟩ : S56) [.int .i64 9, .int .i64 2, .float .f64 4611686018427387904, .float .f64 4616189618054758400, .int .i64 7] from (k56_mkM _ _ _ (⟨9, 2, 4611686018427387904, 4616189618054758400, 7⟩ : S56) )) (Reps.none _ _))); intro v490 w15 ho16 hb hg_ hnew_; clear hg_ hnew_; (first | rw [← Ny489.out] at ho16 | (simp only [Int.reduceToNat] at ho16; rw [← Ny489.out] at ho16)); have n0_ := Aside0.mk (Kd.R_lower ho16 (below_size fb)); have n1_ := Aside0.mk (below_step fb hb); clear HB; have HO491 := n0_; have HB := n1_; clear n0_ n1_; clear hb ho16; obtain ⟨Ao17, co17, eo17⟩ := Kd.R_slice HO491.out; subst eo17) | ((with_reducible refine gate_dst (N := 7) rfl ?_); (try (refine gate_guard (by rfl) ?_; dsimp only)); refine Kd.N_lit k54 _ 54 ?hg (N' := 7) ?hd (xs := ([(⟨2, 4607182418800017408, y489⟩ : S54)] : List (S54))) (inner := [.int .i64 2, .float .f64 4607182418800017408, .slice Ao17 y489.length co17]) (ok := (fun _ => True)) (okp := (fun _ => True)) ?hr ?hp (fun _ hk => hk) ((show ∀ k_, w15.heap.size ≤ k_ → (fun _ => True) k_ from fun k_ hk => trivial) _ (Nat.le_refl _)) (Below.refl _ _) (Nat.le_refl _) (by simp) ?_; (case hd => rfl); (case hg => rfl); (case hr => first | (go_simp; done) | (go_simp; rfl)); (case hp => exact (Reps.c3 (show Kd.FK k54 _ _ (⟨2, 4607182418800017408, y489⟩ : S54) [.int .i64 2, .float .f64 4607182418800017408, .slice Ao17 y489.length co17] from (k54_mkF _ _ (⟨2, 4607182418800017408, y489⟩ : S54) (Kd.R_reads' (Kd.R_mono (ok' := (fun _ => True)) (HO491.out) (fun k_ hk => trivial))).2.1 (Kd.R_F (Kd.R_mono (ok' := (fun _ => True)) (HO491.out) (fun k_ hk => trivial))))) (Reps.none _ _))); intro v493 w18 ho19 hb hg_ hnew_; clear hg_ hnew_; (first | rw [← Ny492.out] at ho19 | (simp only [Int.reduceToNat] at ho19; rw [← Ny492.out] at ho19)); have n0_ := Aside0.mk (Kd.N_lower ho19 (below_size fb)); have n1_ := Aside0.mk (below_step fb hb); clear HB; clear HO491; have HO494 := n0_; have HB := n1_; clear n0_ n1_; clear hb ho19; obtain ⟨Ao20, co20, eo20⟩ := Kd.N_slice HO494.out; subst eo20) | ((with_reducible refine gate_callee (f := 9) rfl ?_); refine gl_ (some 8) Try.func9 #[.int .i64 1, .slice Ao20 y492.length co20, .float .f64 4636737291354636288] ?_; (with_reducible refine (scopedv_Balls.calls 1 _ _ y492 4636737291354636288 t495 t496 _ ?side1 ?side2 A1.out).mono ?_); (case side1 => repeat (first | exact (Kd.N_reads' HO494.out).2.2 | (with_reducible refine Kd.C_alloc ?_ _) | (with_reducible refine Kd.C_drewN ?_ _) | (with_reducible refine Kd.C_drew ?_))); (case side2 => exact (Kd.N_reads' HO494.out).2.1); rintro e w21 ⟨v497, rfl, ho0, hb⟩; refine ⟨_, rfl, ?_⟩; have n0_ := Aside0.mk (Kd.N_elder' (by (with_reducible repeat (first | apply Kd.N_alloc | apply Kd.N_drewN | apply Kd.N_drew)); exact HO494.out) (Kd.R_base ho0) hb); have n1_ := Aside0.mk (Kd.R_lower ho0 (below_size fb)); have n2_ := Aside0.mk (below_step fb hb); clear HO494; clear HB; have HO494 := n0_; have HO498 := n1_; have HB := n2_; clear n0_ n1_ n2_; (try clear hb); (try clear hk); (try clear ho0); obtain ⟨Ao22, co22, eo22⟩ := Kd.R_slice HO498.out; subst eo22; have p499 : 0 ≤ (0 : Int) := (by omega); have q499 : 0 < (t495.length : Int) := of_decide_eq_true (by first | (with_reducible assumption) | assumption); obtain ⟨ad499, e499, hx499_0, hx499_1, hx499_2, hx499_3, hx499_4, hx499_5⟩ := at_T58 (Kd.R_reads' HO498.out).2.2 0 p499 q499; cases e499; have qi499 : (0 < t495.length) = True := eq_true (by omega); (try rw [show ((0 : Int)).toNat = 0 from rfl] at hx499_0); (try rw [show 0 * 6 = 0 from rfl] at hx499_0); (try rw [Addr.add_zero'] at hx499_0); (try rw [show ((0 : Int)).toNat = 0 from rfl] at hx499_1); (try rw [show 0 * 6 = 0 from rfl] at hx499_1); (try rw [Addr.add_zero'] at hx499_1); (try rw [show ((0 : Int)).toNat = 0 from rfl] at hx499_2); (try rw [show 0 * 6 = 0 from rfl] at hx499_2); (try rw [Addr.add_zero'] at hx499_2); (try rw [show ((0 : Int)).toNat = 0 from rfl] at hx499_3); (try rw [show 0 * 6 = 0 from rfl] at hx499_3); (try rw [Addr.add_zero'] at hx499_3); (try rw [show ((0 : Int)).toNat = 0 from rfl] at hx499_4); (try rw [show 0 * 6 = 0 from rfl] at hx499_4); (try rw [Addr.add_zero'] at hx499_4); (try rw [show ((0 : Int)).toNat = 0 from rfl] at hx499_5); (try rw [show 0 * 6 = 0 from rfl] at hx499_5); (try rw [Addr.add_zero'] at hx499_5); replace p499 := eq_true p499; replace q499 := eq_true q499; have p500 : 0 ≤ (0 : Int) := (by omega); have q500 : 0 < (t495.length : Int) := of_decide_eq_true (by first | (with_reducible assumption) | assumption); obtain ⟨ad500, e500, hx500_0, hx500_1, hx500_2, hx500_3, hx500_4, hx500_5⟩ := at_T58 (Kd.R_reads' HO498.out).2.2 0 p500 q500; obtain rfl : ad499 = ad500 := (by injection e500); have qi500 : (0 < t495.length) = True := eq_true (by omega); (try rw [show ((0 : Int)).toNat = 0 from rfl] at hx500_0); (try rw [show 0 * 6 = 0 from rfl] at hx500_0); (try rw [Addr.add_zero'] at hx500_0); (try rw [show ((0 : Int)).toNat = 0 from rfl] at hx500_1); (try rw [show 0 * 6 = 0 from rfl] at hx500_1); (try rw [Addr.add_zero'] at hx500_1); (try rw [show ((0 : Int)).toNat = 0 from rfl] at hx500_2); (try rw [show 0 * 6 = 0 from rfl] at hx500_2); (try rw [Addr.add_zero'] at hx500_2); (try rw [show ((0 : Int)).toNat = 0 from rfl] at hx500_3); (try rw [show 0 * 6 = 0 from rfl] at hx500_3); (try rw [Addr.add_zero'] at hx500_3); (try rw [show ((0 : Int)).toNat = 0 from rfl] at hx500_4); (try rw [show 0 * 6 = 0 from rfl] at hx500_4); (try rw [Addr.add_zero'] at hx500_4); (try rw [show ((0 : Int)).toNat = 0 from rfl] at hx500_5); (try rw [show 0 * 6 = 0 from rfl] at hx500_5); (try rw [Addr.add_zero'] at hx500_5); replace p500 := eq_true p500; replace q500 := eq_true q500))
      go_ret
      exact ⟨fe, fb⟩
    ·rw [if_neg c5] at H
     have c5b0 := bh_ c5
     have c5b1 := bi_ c5
     obtain rfl := oj_ H
     go_enter Try.func12, Try.ntmps12
     go_wp2_with (first | ((with_reducible refine gate_dst (N := 5) rfl ?_); (try (refine gate_guard (by rfl) ?_; dsimp only)); refine Kd.R_lit k56 _ 56 ?hg (N := 5) ?hd (xs := ([(⟨9, 2, 4611686018427387904, 4616189618054758400, 7⟩ : S56)] : List (S56))) (inner := [.int .i64 9, .int .i64 2, .float .f64 4611686018427387904, .float .f64 4616189618054758400, .int .i64 7]) (ok := fun _ => True) (okp := fun _ => True) ?hr ?hp (fun _ hk => hk) trivial (Below.refl _ _) (Nat.le_refl _) (by simp) ?_; (case hd => rfl); (case hg => rfl); (case hr => first | (go_simp; done) | (go_simp; rfl)); (case hp => exact (Reps.c5 (show Kd.M k56 _ _ _ (⟨9, 2, 4611686018427387904, 4616189618054758400, 7⟩ : S56) [.int .i64 9, .int .i64 2, .float .f64 4611686018427387904, .float .f64 4616189618054758400, .int .i64 7] from (k56_mkM _ _ _ (⟨9, 2, 4611686018427387904, 4616189618054758400, 7⟩ : S56) )) (Reps.none _ _))); intro v490 w23 ho24 hb hg_ hnew_; clear hg_ hnew_; (first | rw [← Ny489.out] at ho24 | (simp only [Int.reduceToNat] at ho24; rw [← Ny489.out] at ho24)); have n0_ := Aside0.mk (Kd.R_lower ho24 (below_size fb)); have n1_ := Aside0.mk (below_step fb hb); clear HB; have HO491 := n0_; have HB := n1_; clear n0_ n1_; clear hb ho24; obtain ⟨Ao25, co25, eo25⟩ := Kd.R_slice HO491.out; subst eo25) | ((with_reducible refine gate_dst (N := 7) rfl ?_); (try (refine gate_guard (by rfl) ?_; dsimp only)); refine Kd.N_lit k54 _ 54 ?hg (N' := 7) ?hd (xs := ([(⟨2, 4607182418800017408, y489⟩ : S54)] : List (S54))) (inner := [.int .i64 2, .float .f64 4607182418800017408, .slice Ao25 y489.length co25]) (ok := (fun _ => True)) (okp := (fun _ => True)) ?hr ?hp (fun _ hk => hk) ((show ∀ k_, w23.heap.size ≤ k_ → (fun _ => True) k_ from fun k_ hk => trivial) _ (Nat.le_refl _)) (Below.refl _ _) (Nat.le_refl _) (by simp) ?_; (case hd => rfl); (case hg => rfl); (case hr => first | (go_simp; done) | (go_simp; rfl)); (case hp => exact (Reps.c3 (show Kd.FK k54 _ _ (⟨2, 4607182418800017408, y489⟩ : S54) [.int .i64 2, .float .f64 4607182418800017408, .slice Ao25 y489.length co25] from (k54_mkF _ _ (⟨2, 4607182418800017408, y489⟩ : S54) (Kd.R_reads' (Kd.R_mono (ok' := (fun _ => True)) (HO491.out) (fun k_ hk => trivial))).2.1 (Kd.R_F (Kd.R_mono (ok' := (fun _ => True)) (HO491.out) (fun k_ hk => trivial))))) (Reps.none _ _))); intro v493 w26 ho27 hb hg_ hnew_; clear hg_ hnew_; (first | rw [← Ny492.out] at ho27 | (simp only [Int.reduceToNat] at ho27; rw [← Ny492.out] at ho27)); have n0_ := Aside0.mk (Kd.N_lower ho27 (below_size fb)); have n1_ := Aside0.mk (below_step fb hb); clear HB; clear HO491; have HO494 := n0_; have HB := n1_; clear n0_ n1_; clear hb ho27; obtain ⟨Ao28, co28, eo28⟩ := Kd.N_slice HO494.out; subst eo28) | ((with_reducible refine gate_callee (f := 9) rfl ?_); refine gl_ (some 8) Try.func9 #[.int .i64 1, .slice Ao28 y492.length co28, .float .f64 4636737291354636288] ?_; (with_reducible refine (scopedv_Balls.calls 1 _ _ y492 4636737291354636288 t495 t496 _ ?side1 ?side2 A1.out).mono ?_); (case side1 => repeat (first | exact (Kd.N_reads' HO494.out).2.2 | (with_reducible refine Kd.C_alloc ?_ _) | (with_reducible refine Kd.C_drewN ?_ _) | (with_reducible refine Kd.C_drew ?_))); (case side2 => exact (Kd.N_reads' HO494.out).2.1); rintro e w29 ⟨v497, rfl, ho0, hb⟩; refine ⟨_, rfl, ?_⟩; have n0_ := Aside0.mk (Kd.N_elder' (by (with_reducible repeat (first | apply Kd.N_alloc | apply Kd.N_drewN | apply Kd.N_drew)); exact HO494.out) (Kd.R_base ho0) hb); have n1_ := Aside0.mk (Kd.R_lower ho0 (below_size fb)); have n2_ := Aside0.mk (below_step fb hb); clear HO494; clear HB; have HO494 := n0_; have HO498 := n1_; have HB := n2_; clear n0_ n1_ n2_; (try clear hb); (try clear hk); (try clear ho0); obtain ⟨Ao30, co30, eo30⟩ := Kd.R_slice HO498.out; subst eo30; have p499 : 0 ≤ (0 : Int) := (by omega); have q499 : 0 < (t495.length : Int) := of_decide_eq_true (by first | (with_reducible assumption) | assumption); obtain ⟨ad499, e499, hx499_0, hx499_1, hx499_2, hx499_3, hx499_4, hx499_5⟩ := at_T58 (Kd.R_reads' HO498.out).2.2 0 p499 q499; cases e499; have qi499 : (0 < t495.length) = True := eq_true (by omega); (try rw [show ((0 : Int)).toNat = 0 from rfl] at hx499_0); (try rw [show 0 * 6 = 0 from rfl] at hx499_0); (try rw [Addr.add_zero'] at hx499_0); (try rw [show ((0 : Int)).toNat = 0 from rfl] at hx499_1); (try rw [show 0 * 6 = 0 from rfl] at hx499_1); (try rw [Addr.add_zero'] at hx499_1); (try rw [show ((0 : Int)).toNat = 0 from rfl] at hx499_2); (try rw [show 0 * 6 = 0 from rfl] at hx499_2); (try rw [Addr.add_zero'] at hx499_2); (try rw [show ((0 : Int)).toNat = 0 from rfl] at hx499_3); (try rw [show 0 * 6 = 0 from rfl] at hx499_3); (try rw [Addr.add_zero'] at hx499_3); (try rw [show ((0 : Int)).toNat = 0 from rfl] at hx499_4); (try rw [show 0 * 6 = 0 from rfl] at hx499_4); (try rw [Addr.add_zero'] at hx499_4); (try rw [show ((0 : Int)).toNat = 0 from rfl] at hx499_5); (try rw [show 0 * 6 = 0 from rfl] at hx499_5); (try rw [Addr.add_zero'] at hx499_5); replace p499 := eq_true p499; replace q499 := eq_true q499))
     go_ret
     exact ⟨fe, fb⟩
   ·rw [if_neg c4] at H
    exact absurd H (by simp)
  ·rw [if_neg c3] at H
   have c3b0 := bh_ c3
   have c3b1 := bi_ c3
   obtain rfl := oj_ H
   go_enter Try.func12, Try.ntmps12
   go_wp2_with (first | ((with_reducible refine gate_dst (N := 5) rfl ?_); (try (refine gate_guard (by rfl) ?_; dsimp only)); refine Kd.R_lit k56 _ 56 ?hg (N := 5) ?hd (xs := ([(⟨9, 2, 4611686018427387904, 4616189618054758400, 7⟩ : S56)] : List (S56))) (inner := [.int .i64 9, .int .i64 2, .float .f64 4611686018427387904, .float .f64 4616189618054758400, .int .i64 7]) (ok := fun _ => True) (okp := fun _ => True) ?hr ?hp (fun _ hk => hk) trivial (Below.refl _ _) (Nat.le_refl _) (by simp) ?_; (case hd => rfl); (case hg => rfl); (case hr => first | (go_simp; done) | (go_simp; rfl)); (case hp => exact (Reps.c5 (show Kd.M k56 _ _ _ (⟨9, 2, 4611686018427387904, 4616189618054758400, 7⟩ : S56) [.int .i64 9, .int .i64 2, .float .f64 4611686018427387904, .float .f64 4616189618054758400, .int .i64 7] from (k56_mkM _ _ _ (⟨9, 2, 4611686018427387904, 4616189618054758400, 7⟩ : S56) )) (Reps.none _ _))); intro v490 w31 ho32 hb hg_ hnew_; clear hg_ hnew_; (first | rw [← Ny489.out] at ho32 | (simp only [Int.reduceToNat] at ho32; rw [← Ny489.out] at ho32)); have n0_ := Aside0.mk (Kd.R_lower ho32 (below_size fb)); have n1_ := Aside0.mk (below_step fb hb); clear HB; have HO491 := n0_; have HB := n1_; clear n0_ n1_; clear hb ho32; obtain ⟨Ao33, co33, eo33⟩ := Kd.R_slice HO491.out; subst eo33) | ((with_reducible refine gate_dst (N := 7) rfl ?_); (try (refine gate_guard (by rfl) ?_; dsimp only)); refine Kd.N_lit k54 _ 54 ?hg (N' := 7) ?hd (xs := ([(⟨2, 4607182418800017408, y489⟩ : S54)] : List (S54))) (inner := [.int .i64 2, .float .f64 4607182418800017408, .slice Ao33 y489.length co33]) (ok := (fun _ => True)) (okp := (fun _ => True)) ?hr ?hp (fun _ hk => hk) ((show ∀ k_, w31.heap.size ≤ k_ → (fun _ => True) k_ from fun k_ hk => trivial) _ (Nat.le_refl _)) (Below.refl _ _) (Nat.le_refl _) (by simp) ?_; (case hd => rfl); (case hg => rfl); (case hr => first | (go_simp; done) | (go_simp; rfl)); (case hp => exact (Reps.c3 (show Kd.FK k54 _ _ (⟨2, 4607182418800017408, y489⟩ : S54) [.int .i64 2, .float .f64 4607182418800017408, .slice Ao33 y489.length co33] from (k54_mkF _ _ (⟨2, 4607182418800017408, y489⟩ : S54) (Kd.R_reads' (Kd.R_mono (ok' := (fun _ => True)) (HO491.out) (fun k_ hk => trivial))).2.1 (Kd.R_F (Kd.R_mono (ok' := (fun _ => True)) (HO491.out) (fun k_ hk => trivial))))) (Reps.none _ _))); intro v493 w34 ho35 hb hg_ hnew_; clear hg_ hnew_; (first | rw [← Ny492.out] at ho35 | (simp only [Int.reduceToNat] at ho35; rw [← Ny492.out] at ho35)); have n0_ := Aside0.mk (Kd.N_lower ho35 (below_size fb)); have n1_ := Aside0.mk (below_step fb hb); clear HB; clear HO491; have HO494 := n0_; have HB := n1_; clear n0_ n1_; clear hb ho35; obtain ⟨Ao36, co36, eo36⟩ := Kd.N_slice HO494.out; subst eo36) | ((with_reducible refine gate_callee (f := 9) rfl ?_); refine gl_ (some 8) Try.func9 #[.int .i64 1, .slice Ao36 y492.length co36, .float .f64 4636737291354636288] ?_; (with_reducible refine (scopedv_Balls.calls 1 _ _ y492 4636737291354636288 t495 t496 _ ?side1 ?side2 A1.out).mono ?_); (case side1 => repeat (first | exact (Kd.N_reads' HO494.out).2.2 | (with_reducible refine Kd.C_alloc ?_ _) | (with_reducible refine Kd.C_drewN ?_ _) | (with_reducible refine Kd.C_drew ?_))); (case side2 => exact (Kd.N_reads' HO494.out).2.1); rintro e w37 ⟨v497, rfl, ho0, hb⟩; refine ⟨_, rfl, ?_⟩; have n0_ := Aside0.mk (Kd.N_elder' (by (with_reducible repeat (first | apply Kd.N_alloc | apply Kd.N_drewN | apply Kd.N_drew)); exact HO494.out) (Kd.R_base ho0) hb); have n1_ := Aside0.mk (Kd.R_lower ho0 (below_size fb)); have n2_ := Aside0.mk (below_step fb hb); clear HO494; clear HB; have HO494 := n0_; have HO498 := n1_; have HB := n2_; clear n0_ n1_ n2_; (try clear hb); (try clear hk); (try clear ho0); obtain ⟨Ao38, co38, eo38⟩ := Kd.R_slice HO498.out; subst eo38))
   go_ret
   exact ⟨fe, fb⟩
 ·rw [if_neg c2] at H
  have c2b0 := bh_ c2
  have c2b1 := bi_ c2
  obtain rfl := oj_ H
  go_enter Try.func12, Try.ntmps12
  go_wp2_with (first | ((with_reducible refine gate_dst (N := 5) rfl ?_); (try (refine gate_guard (by rfl) ?_; dsimp only)); refine Kd.R_lit k56 _ 56 ?hg (N := 5) ?hd (xs := ([(⟨9, 2, 4611686018427387904, 4616189618054758400, 7⟩ : S56)] : List (S56))) (inner := [.int .i64 9, .int .i64 2, .float .f64 4611686018427387904, .float .f64 4616189618054758400, .int .i64 7]) (ok := fun _ => True) (okp := fun _ => True) ?hr ?hp (fun _ hk => hk) trivial (Below.refl _ _) (Nat.le_refl _) (by simp) ?_; (case hd => rfl); (case hg => rfl); (case hr => first | (go_simp; done) | (go_simp; rfl)); (case hp => exact (Reps.c5 (show Kd.M k56 _ _ _ (⟨9, 2, 4611686018427387904, 4616189618054758400, 7⟩ : S56) [.int .i64 9, .int .i64 2, .float .f64 4611686018427387904, .float .f64 4616189618054758400, .int .i64 7] from (k56_mkM _ _ _ (⟨9, 2, 4611686018427387904, 4616189618054758400, 7⟩ : S56) )) (Reps.none _ _))); intro v490 w39 ho40 hb hg_ hnew_; clear hg_ hnew_; (first | rw [← Ny489.out] at ho40 | (simp only [Int.reduceToNat] at ho40; rw [← Ny489.out] at ho40)); have n0_ := Aside0.mk (Kd.R_lower ho40 (below_size fb)); have n1_ := Aside0.mk (below_step fb hb); clear HB; have HO491 := n0_; have HB := n1_; clear n0_ n1_; clear hb ho40; obtain ⟨Ao41, co41, eo41⟩ := Kd.R_slice HO491.out; subst eo41) | ((with_reducible refine gate_dst (N := 7) rfl ?_); (try (refine gate_guard (by rfl) ?_; dsimp only)); refine Kd.N_lit k54 _ 54 ?hg (N' := 7) ?hd (xs := ([(⟨2, 4607182418800017408, y489⟩ : S54)] : List (S54))) (inner := [.int .i64 2, .float .f64 4607182418800017408, .slice Ao41 y489.length co41]) (ok := (fun _ => True)) (okp := (fun _ => True)) ?hr ?hp (fun _ hk => hk) ((show ∀ k_, w39.heap.size ≤ k_ → (fun _ => True) k_ from fun k_ hk => trivial) _ (Nat.le_refl _)) (Below.refl _ _) (Nat.le_refl _) (by simp) ?_; (case hd => rfl); (case hg => rfl); (case hr => first | (go_simp; done) | (go_simp; rfl)); (case hp => exact (Reps.c3 (show Kd.FK k54 _ _ (⟨2, 4607182418800017408, y489⟩ : S54) [.int .i64 2, .float .f64 4607182418800017408, .slice Ao41 y489.length co41] from (k54_mkF _ _ (⟨2, 4607182418800017408, y489⟩ : S54) (Kd.R_reads' (Kd.R_mono (ok' := (fun _ => True)) (HO491.out) (fun k_ hk => trivial))).2.1 (Kd.R_F (Kd.R_mono (ok' := (fun _ => True)) (HO491.out) (fun k_ hk => trivial))))) (Reps.none _ _))); intro v493 w42 ho43 hb hg_ hnew_; clear hg_ hnew_; (first | rw [← Ny492.out] at ho43 | (simp only [Int.reduceToNat] at ho43; rw [← Ny492.out] at ho43)); have n0_ := Aside0.mk (Kd.N_lower ho43 (below_size fb)); have n1_ := Aside0.mk (below_step fb hb); clear HB; clear HO491; have HO494 := n0_; have HB := n1_; clear n0_ n1_; clear hb ho43; obtain ⟨Ao44, co44, eo44⟩ := Kd.N_slice HO494.out; subst eo44) | ((with_reducible refine gate_callee (f := 9) rfl ?_); refine gl_ (some 8) Try.func9 #[.int .i64 1, .slice Ao44 y492.length co44, .float .f64 4636737291354636288] ?_; (with_reducible refine (scopedv_Balls.calls 1 _ _ y492 4636737291354636288 t495 t496 _ ?side1 ?side2 A1.out).mono ?_); (case side1 => repeat (first | exact (Kd.N_reads' HO494.out).2.2 | (with_reducible refine Kd.C_alloc ?_ _) | (with_reducible refine Kd.C_drewN ?_ _) | (with_reducible refine Kd.C_drew ?_))); (case side2 => exact (Kd.N_reads' HO494.out).2.1); rintro e w45 ⟨v497, rfl, ho0, hb⟩; refine ⟨_, rfl, ?_⟩; have n0_ := Aside0.mk (Kd.N_elder' (by (with_reducible repeat (first | apply Kd.N_alloc | apply Kd.N_drewN | apply Kd.N_drew)); exact HO494.out) (Kd.R_base ho0) hb); have n1_ := Aside0.mk (Kd.R_lower ho0 (below_size fb)); have n2_ := Aside0.mk (below_step fb hb); clear HO494; clear HB; have HO494 := n0_; have HO498 := n1_; have HB := n2_; clear n0_ n1_ n2_; (try clear hb); (try clear hk); (try clear ho0)))
  go_ret
  exact ⟨fe, fb⟩

/-! ### scopedv_number: function 54 -/
def scopedv_number.f (k : Nat) (a0 : Int) : Option (Bool) := (ident_CheckId.f k a0).bind fun t502 => (some (t502 == 0))
set_option maxHeartbeats 8000000 in
set_option maxRecDepth 100000 in
theorem scopedv_number.calls (k : Nat) (a0 : Int) (r : Bool) (w : World) (h : scopedv_number.f k a0 = some r) :
  Calls Try.prog 54 #[.int .i64 a0] w fun e w' => e = .returned (.bool r) ∧ Drawn0 w w' := by
 have H : ((ident_CheckId.f k a0).bind fun t502 => (some (t502 == 0))) = some r := h
 clear h
 replace H := bs_ H; obtain ⟨t502, A2, H⟩ := H
 obtain rfl := oj_ H
 go_enter Try.func54, Try.ntmps54
 go_wp2_with (first | ((with_reducible refine gate_callee (f := 49) rfl ?_); refine gl_ (some 4) Try.func49 #[.int .i64 a0] ?_; (with_reducible refine (ident_CheckId.calls k a0 t502 _ A2.out).mono ?_); rintro e w' ⟨rfl, ⟨nd, rfl⟩⟩; refine ⟨_, rfl, ?_⟩))
 go_ret
 exact ⟨fz, fd⟩

/-! ### scopedv_distance: function 83 -/
def scopedv_distance.f (k : Nat) (a0 : Nat) : Option (Bool) := (message_Check.f k 2 1 1 1 (([(⟨1, 1, a0, 0, 0⟩ : S56)] : List (S56))) 0 0 0 0 0 0 0 0 (⟨#[]⟩ : ByteArray) 0 0 (⟨#[]⟩ : ByteArray)).bind fun t507 => (some (t507 == 0))
set_option maxHeartbeats 8000000 in
set_option maxRecDepth 100000 in
theorem scopedv_distance.calls (k : Nat) (a0 : Nat) (r : Bool) (w : World) (h : scopedv_distance.f k a0 = some r) :
  Calls Try.prog 83 #[.float .f64 a0] w fun e w' => e = .returned (.bool r) ∧ Below w.heap.size w w' := by
 have hu56 := Try.underlying56
 have hu118 := Try.underlying118
 have HB := Aside0.mk (Below.refl w.heap.size w)
 have H : ((message_Check.f k 2 1 1 1 (([(⟨1, 1, a0, 0, 0⟩ : S56)] : List (S56))) 0 0 0 0 0 0 0 0 (⟨#[]⟩ : ByteArray) 0 0 (⟨#[]⟩ : ByteArray)).bind fun t507 => (some (t507 == 0))) = some r := h
 clear h
 obtain ⟨y504, hy504⟩ : ∃ y_ : List (S56), y_ = (([(⟨1, 1, a0, 0, 0⟩ : S56)] : List (S56))) := ⟨_, rfl⟩
 replace H : ((message_Check.f k 2 1 1 1 y504 0 0 0 0 0 0 0 0 (⟨#[]⟩ : ByteArray) 0 0 (⟨#[]⟩ : ByteArray)).bind fun t507 => (some (t507 == 0))) = some r := by first | (rw [hy504]; with_reducible exact H) | (have H2_ := (Option.bind_some _ _).symm.trans H; rw [hy504]; with_reducible exact H2_) | (have H2_ := (Option.bind_some _ _).symm.trans H; with_reducible exact H2_) | with_reducible exact H | (rw [hy504]; exact H) | exact H
 have Ny504 := Aside0.mk hy504
 clear hy504
 replace H := bs_ H; obtain ⟨t507, A2, H⟩ := H
 obtain rfl := oj_ H
 go_enter Try.func83, Try.ntmps83
 go_wp2_with (first | ((with_reducible refine gate_dst (N := 3) rfl ?_); refine bx_ (N := 3) #[.int .i64 0, .int .i64 0, .float .f64 0, .float .f64 0, .int .i64 0] 56 ⟨fb⟩ ?_; clear HB; intro gb503 w3 HB BK503 GE503; have GW503 := GE503; obtain ⟨hcz4_0, hcz4_1, hcz4_2, hcz4_3, hcz4_4, hfz4_0, hfz4_1, hfz4_2, hfz4_3, hfz4_4⟩ := cz5 BK503.out) | ((with_reducible refine gate_dst (N := 7) rfl ?_); refine Kd.R_lit k56 _ 56 ?hg (N := 7) ?hd (xs := ([(⟨1, 1, a0, 0, 0⟩ : S56)] : List (S56))) (inner := [.int .i64 1, .int .i64 1, .float .f64 a0, .float .f64 0, .int .i64 0]) (ok := fun _ => True) (okp := fun _ => True) ?hr ?hp (fun _ hk => hk) trivial (Below.refl _ _) (Nat.le_refl _) (by simp) ?_; (case hd => rfl); (case hg => rfl); (case hr => first | (go_simp; done) | (go_simp; rfl)); (case hp => exact (Reps.c5 (show Kd.M k56 _ _ _ (⟨1, 1, a0, 0, 0⟩ : S56) [.int .i64 1, .int .i64 1, .float .f64 a0, .float .f64 0, .int .i64 0] from (k56_mkM _ _ _ (⟨1, 1, a0, 0, 0⟩ : S56) )) (Reps.none _ _))); intro v505 w5 ho6 hb hg_ hnew_; clear hg_ hnew_; (first | rw [← Ny504.out] at ho6 | (simp only [Int.reduceToNat] at ho6; rw [← Ny504.out] at ho6)); have n0_ := Aside0.mk (Kd.R_lower (Kd.R_newB ho6 (g := gb503) (o := .cells #[.int .i64 1, .int .i64 1, .float .f64 a0, .float .f64 0, .int .i64 0] 56 (0, 0)) (kp BK503.out)) (below_size (fb1 GE503))); have n1_ := Aside0.mk (blk_below (g := gb503) (o := .cells #[.int .i64 1, .int .i64 1, .float .f64 a0, .float .f64 0, .int .i64 0] 56 (0, 0)) (kp BK503.out) hb); have n2_ := Aside0.mk (below_step (fb1 GE503) hb); clear BK503; clear HB; have HO506 := n0_; have BK503 := n1_; have HB := n2_; clear n0_ n1_ n2_; clear hb ho6; obtain ⟨Ao7, co7, eo7⟩ := Kd.R_slice HO506.out; subst eo7) | ((with_reducible refine gate_callee (f := 109) rfl ?_); refine gl_ (some 9) Try.func109 #[.agg #[.int .i64 2, .int .u64 1, .int .u64 1, .int .u64 1, .slice Ao7 y504.length co7, .int .i64 0, .int .i64 0, .int .i64 0, .int .i64 0, .int .i64 0, .int .i64 0, .int .u64 0, .int .i64 0, .string (⟨#[]⟩ : ByteArray), .int .i64 0, .int .i64 0, .string (⟨#[]⟩ : ByteArray)]] ?_; (with_reducible refine (message_Check.calls k 2 1 1 1 _ _ y504 0 0 0 0 0 0 0 0 (⟨#[]⟩ : ByteArray) 0 0 (⟨#[]⟩ : ByteArray) t507 _ ?side1 ?side2 A2.out).mono ?_); (case side1 => repeat (first | exact (Kd.R_reads' HO506.out).2.2 | (with_reducible refine Kd.C_alloc ?_ _) | (with_reducible refine Kd.C_drewN ?_ _) | (with_reducible refine Kd.C_drew ?_))); (case side2 => exact (Kd.R_reads' HO506.out).2.1); rintro e w8 ⟨rfl, hb⟩; refine ⟨_, rfl, ?_⟩; have n0_ := Aside0.mk (Kd.R_below (by (with_reducible repeat (first | apply Kd.R_alloc | apply Kd.R_drewN | apply Kd.R_drew)); exact HO506.out) hb); have n1_ := Aside0.mk (blk_below (g := gb503) (o := .cells #[.int .i64 1, .int .i64 1, .float .f64 a0, .float .f64 0, .int .i64 0] 56 (0, 0)) (kp BK503.out) hb); have n2_ := Aside0.mk (below_step (fb1 GE503) hb); clear HO506; clear BK503; clear HB; have HO506 := n0_; have BK503 := n1_; have HB := n2_; clear n0_ n1_ n2_; (try clear hb); (try clear hk)))
 go_ret
 exact ⟨fe, fb1 GE503⟩

/-! ### scopedv_homed: function 55 -/
def scopedv_homed.j0 : Nat → Int → Bool → Int → Int → Nat → Option (Bool)
 | 0, _, _, _, _, _ => none
 | k + 1, x0, x14, x509000, x509001, x509002 => if x14 = true then (some false) else ((math_IsInf.f x509002 1).bind fun t510 => (if t510 = true then (some (x509001 == 0)) else ((scopedv_number.f k x509001).bind fun t511 => (if t511 = true then (some ((fEq x509002 0) == (x509001 == x0))) else (some false)))))
def scopedv_homed.f (k : Nat) (a0 : Int) (a1_0 : Int) (a1_1 : Int) (a1_2 : Nat) : Option (Bool) := if a1_0 = a0 then ((scopedv_distance.f k a1_2).bind fun t509 => (scopedv_homed.j0 k a0 (!t509) a1_0 a1_1 a1_2)) else (scopedv_homed.j0 k a0 true a1_0 a1_1 a1_2)
set_option maxHeartbeats 8000000 in
set_option maxRecDepth 100000 in
theorem scopedv_homed.calls (k : Nat) (a0 : Int) (a1_0 : Int) (a1_1 : Int) (a1_2 : Nat) (r : Bool) (w : World) (h : scopedv_homed.f k a0 a1_0 a1_1 a1_2 = some r) :
  Calls Try.prog 55 #[.int .i64 a0, .agg #[.int .i64 a1_0, .int .i64 a1_1, .float .f64 a1_2]] w fun e w' => e = .returned (.bool r) ∧ Below w.heap.size w w' := by
 have hu34 := Try.underlying34
 have HB := Aside0.mk (Below.refl w.heap.size w)
 have H : (if a1_0 = a0 then ((scopedv_distance.f k a1_2).bind fun t509 => (scopedv_homed.j0 k a0 (!t509) a1_0 a1_1 a1_2)) else (scopedv_homed.j0 k a0 true a1_0 a1_1 a1_2)) = some r := h
 clear h
 have HC3 := Aside0.mk H
 clear H
 go_enter Try.func55, Try.ntmps55
 go_upto_region 1 with (first | ((with_reducible refine gate_dst (N := 3) rfl ?_); refine bx_ (N := 3) #[.int .i64 a1_0, .int .i64 a1_1, .float .f64 a1_2] 34 ⟨fb⟩ ?_; clear HB; intro gb508 w4 HB BK508 GE508; have GW508 := GE508))
 (try simp only [Act.put, qa, qb, qc])
 go_cut [14] (fun v14 wc => ∃ (kq : Nat) (x14_2 : Bool), v14 = .bool x14_2 ∧ Aside0 (scopedv_homed.j0 kq a0 x14_2 a1_0 a1_1 a1_2 = some r) ∧ Aside0 (kq ≤ k) ∧ Aside0 (wc.heap[gb508]? = some (.cells #[.int .i64 a1_0, .int .i64 a1_1, .float .f64 a1_2] 34 (0, 0))) ∧ Aside0 (Below w.heap.size w wc))
 case first =>
  have H := HC3.out
  clear HC3
  by_cases c5 : a1_0 = a0
  ·rw [if_pos c5] at H
   have c5b0 := be_ c5
   have c5b1 := bg_ c5
   clear c5
   (first | rw [c5b0] | (simp only [i64_w, i32_w]; rw [c5b0]) | skip)
   replace H := bs_ H; obtain ⟨t509, A6, H⟩ := H
   have H' := Aside0.mk H
   clear H
   obtain ⟨hcz7_0, hcz7_1, hcz7_2, hfz7_0, hfz7_1, hfz7_2⟩ := cz3 BK508.out
   go_wp2_with (first | (go_at_call 83; (with_reducible refine (scopedv_distance.calls k a1_2 t509 _ A6.out).mono ?_); rintro e w8 ⟨rfl, hb⟩; have n0_ := Aside0.mk (blk_below (g := gb508) (o := .cells #[.int .i64 a1_0, .int .i64 a1_1, .float .f64 a1_2] 34 (0, 0)) (kp BK508.out) hb); have n1_ := Aside0.mk (below_step (fb1 GE508) hb); clear BK508; clear HB; have BK508 := n0_; have HB := n1_; clear n0_ n1_; (try clear hb)))
   go_meet
   case rel => exact ⟨_, (!t509), fz, H', ⟨fl⟩, ⟨kp BK508.out⟩, ⟨fb1 GE508⟩⟩
  ·rw [if_neg c5] at H
   have c5b0 := bh_ c5
   have c5b1 := bi_ c5
   (first | rw [c5b0] | (simp only [i64_w, i32_w]; rw [c5b0]) | skip)
   have H' := Aside0.mk H
   clear H
   obtain ⟨hcz9_0, hcz9_1, hcz9_2, hfz9_0, hfz9_1, hfz9_2⟩ := cz3 BK508.out
   go_wp2
   go_meet
   case rel => exact ⟨_, (true), fz, H', ⟨fl⟩, ⟨kp BK508.out⟩, ⟨fb1 GE508⟩⟩
 case rest =>
  clear HC3
  obtain ⟨kq, x14_2, rfl, HA, HJ2, BK508, HB⟩ := hcut
  cases kq with
  | zero => exact absurd HA.out (by simp [scopedv_homed.j0])
  | succ kj2 =>
   have H := HA.out
   clear HA
   simp only [scopedv_homed.j0] at H
   by_cases c10 : x14_2 = true
   ·subst c10
    rw [if_pos rfl] at H
    obtain rfl := oj_ H
    go_wp2
    go_ret
    exact ⟨fe, fb1 GE508⟩
   ·obtain rfl := bf_ c10
    rw [if_neg nf_] at H
    replace H := bs_ H; obtain ⟨t510, A11, H⟩ := H
    by_cases c12 : t510 = true
    ·subst c12
     rw [if_pos rfl] at H
     obtain rfl := oj_ H
     obtain ⟨hcz13_0, hcz13_1, hcz13_2, hfz13_0, hfz13_1, hfz13_2⟩ := cz3 BK508.out
     go_wp2_with (first | ((with_reducible refine gate_callee (f := 62) rfl ?_); refine gl_ (some 17) Try.func62 #[.float .f64 a1_2, .int .i64 1] ?_; (with_reducible refine (math_IsInf.calls a1_2 1 true _ A11.out).mono ?_); rintro e w' ⟨rfl, ⟨nd, rfl⟩⟩; refine ⟨_, rfl, ?_⟩))
     go_ret
     exact ⟨fe, fb1 GE508⟩
    ·obtain rfl := bf_ c12
     rw [if_neg nf_] at H
     replace H := bs_ H; obtain ⟨t511, A14, H⟩ := H
     by_cases c15 : t511 = true
     ·subst c15
      rw [if_pos rfl] at H
      obtain rfl := oj_ H
      obtain ⟨hcz16_0, hcz16_1, hcz16_2, hfz16_0, hfz16_1, hfz16_2⟩ := cz3 BK508.out
      go_wp2_with (first | ((with_reducible refine gate_callee (f := 62) rfl ?_); refine gl_ (some 17) Try.func62 #[.float .f64 a1_2, .int .i64 1] ?_; (with_reducible refine (math_IsInf.calls a1_2 1 false _ A11.out).mono ?_); rintro e w' ⟨rfl, ⟨nd, rfl⟩⟩; refine ⟨_, rfl, ?_⟩) | ((with_reducible refine gate_callee (f := 54) rfl ?_); refine gl_ (some 23) Try.func54 #[.int .i64 a1_1] ?_; (with_reducible refine (scopedv_number.calls kj2 a1_1 true _ A14.out).mono ?_); rintro e w' ⟨rfl, ⟨nd, rfl⟩⟩; refine ⟨_, rfl, ?_⟩))
      go_ret
      exact ⟨fe, fb1 GE508⟩
     ·obtain rfl := bf_ c15
      rw [if_neg nf_] at H
      obtain rfl := oj_ H
      obtain ⟨hcz17_0, hcz17_1, hcz17_2, hfz17_0, hfz17_1, hfz17_2⟩ := cz3 BK508.out
      go_wp2_with (first | ((with_reducible refine gate_callee (f := 62) rfl ?_); refine gl_ (some 17) Try.func62 #[.float .f64 a1_2, .int .i64 1] ?_; (with_reducible refine (math_IsInf.calls a1_2 1 false _ A11.out).mono ?_); rintro e w' ⟨rfl, ⟨nd, rfl⟩⟩; refine ⟨_, rfl, ?_⟩) | ((with_reducible refine gate_callee (f := 54) rfl ?_); refine gl_ (some 23) Try.func54 #[.int .i64 a1_1] ?_; (with_reducible refine (scopedv_number.calls kj2 a1_1 false _ A14.out).mono ?_); rintro e w' ⟨rfl, ⟨nd, rfl⟩⟩; refine ⟨_, rfl, ?_⟩))
      go_ret
      exact ⟨fe, fb1 GE508⟩

end Go.Proofs.Ytjkhckbfkinheaa.GAa
