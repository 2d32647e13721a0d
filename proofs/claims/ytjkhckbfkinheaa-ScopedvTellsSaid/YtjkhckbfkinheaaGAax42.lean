-- written by a program of this session (wip/pp): see NOTES.md
import Derived.Test.YtjkhckbfkinheaaGAax0
import Derived.Test.YtjkhckbfkinheaaGAax38
import Derived.Test.YtjkhckbfkinheaaGAax40
import Derived.Test.YtjkhckbfkinheaaGAax41
import Derived.Test.YtjkhckbfkinheaaHSortNAa
namespace Go.Proofs.Ytjkhckbfkinheaa.GAa
open Go.RowKit Go.Proofs.YtjkhckbfkinheaaW.PrintWords Go.Proofs.YtjkhckbfkinheaaW.PrintLast Go.Proofs.YtjkhckbfkinheaaW.PrintMore
attribute [local go_sem] max2_int min2_int max_two min_two max_three min_three max_four min_four   -- for this text's walks alone
attribute [local go_sem high] binOp_flss binOp_fgtr binOp_fleq binOp_fgeq binOp_feql binOp_fneq run_fadd run_fsub run_fmul run_fquo unary_fneg run_ftoint run_fofint run_feqIn ext_bits ext_frombits ext_trunc
set_option linter.unusedVariables false
set_option linter.unusedSimpArgs false

/-! ### scopedv_Tell: function 20 -/
mutual
noncomputable def scopedv_Tell.j0 : Nat → Int → List (S58) → List (S56) → Option ((List (S56)) × Int)
 | 0, _, _, _ => none
 | k + 1, x0, x2, x8 => scopedv_Tell.l0 k x0 x2 x8 x2 (x2.length : Int) 0
noncomputable def scopedv_Tell.l0 : Nat → Int → List (S58) → List (S56) → List (S58) → Int → Int → Option ((List (S56)) × Int)
 | 0, _, _, _, _, _, _ => none
 | k + 1, x0, x2, x8, x31, x32, x33 => if x33 < x32 then (if 0 ≤ x33 then (if x33 < (x31.length : Int) then ((scopedv_ball.f k x0 ((rd_T58 x31 x33).f0) ((rd_T58 x31 x33).f1) ((rd_T58 x31 x33).f2) ((rd_T58 x31 x33).f3) ((rd_T58 x31 x33).f4) ((rd_T58 x31 x33).f5)).bind fun t530 => (if t530 = true then (if x33 > 0 then (if 0 ≤ (wrap64 (x33 - 1)) then (if (wrap64 (x33 - 1)) < (x2.length : Int) then ((scopedv_order.f ((rd_T58 x2 (wrap64 (x33 - 1))).f0) ((rd_T58 x2 (wrap64 (x33 - 1))).f1) ((rd_T58 x2 (wrap64 (x33 - 1))).f2) ((rd_T58 x2 (wrap64 (x33 - 1))).f3) ((rd_T58 x2 (wrap64 (x33 - 1))).f4) ((rd_T58 x2 (wrap64 (x33 - 1))).f5) ((rd_T58 x31 x33).f0) ((rd_T58 x31 x33).f1) ((rd_T58 x31 x33).f2) ((rd_T58 x31 x33).f3) ((rd_T58 x31 x33).f4) ((rd_T58 x31 x33).f5)).bind fun t532 => (scopedv_Tell.j2 k x0 x2 x8 x31 x32 x33 (decide (t532 ≥ 0)) ((rd_T58 x31 x33).f0) ((rd_T58 x31 x33).f1) ((rd_T58 x31 x33).f2) ((rd_T58 x31 x33).f3) ((rd_T58 x31 x33).f4) ((rd_T58 x31 x33).f5))) else (none)) else (none)) else (scopedv_Tell.j2 k x0 x2 x8 x31 x32 x33 false ((rd_T58 x31 x33).f0) ((rd_T58 x31 x33).f1) ((rd_T58 x31 x33).f2) ((rd_T58 x31 x33).f3) ((rd_T58 x31 x33).f4) ((rd_T58 x31 x33).f5))) else (scopedv_Tell.j2 k x0 x2 x8 x31 x32 x33 true ((rd_T58 x31 x33).f0) ((rd_T58 x31 x33).f1) ((rd_T58 x31 x33).f2) ((rd_T58 x31 x33).f3) ((rd_T58 x31 x33).f4) ((rd_T58 x31 x33).f5)))) else (none)) else (none)) else ((sort_News.f x8 58).bind fun t536 => (some (t536, 0)))
noncomputable def scopedv_Tell.j2 : Nat → Int → List (S58) → List (S56) → List (S58) → Int → Int → Bool → Int → Int → Nat → Int → Nat → Int → Option ((List (S56)) × Int)
 | 0, _, _, _, _, _, _, _, _, _, _, _, _, _ => none
 | k + 1, x0, x2, x8, x31, x32, x33, x55, x530000, x530001, x530002, x530003, x530004, x530005 => if x55 = true then (some (([] : List (S56)), 1)) else (if x530001 = 2 then (if x8.length < 3518437208883 then (scopedv_Tell.l0 k x0 x2 (x8 ++ [(⟨x530000, 2, x530002, x530004, x530005⟩ : S56)]) x31 x32 (wrap64 (x33 + 1))) else (none)) else (scopedv_Tell.l0 k x0 x2 x8 x31 x32 (wrap64 (x33 + 1))))
end
noncomputable def scopedv_Tell.f (k : Nat) (a0 : Int) (a1_0 : Int) (a1_1 : Int) (a1_2 : Nat) (l2 : List (S58)) : Option ((List (S56)) × Int) := (scopedv_number.f k a0).bind fun t523 => (if t523 = true then ((scopedv_homed.f k a0 a1_0 a1_1 a1_2).bind fun t524 => (if t524 = true then (if a1_1 = a0 then (scopedv_Tell.j0 k a0 l2 ([] : List (S56))) else (if ([] : List (S56)).length < 3518437208883 then (scopedv_Tell.j0 k a0 l2 (([] : List (S56)) ++ [(⟨a0, 2, 0, a1_2, a1_1⟩ : S56)])) else (none))) else (some (([] : List (S56)), 1)))) else (some (([] : List (S56)), 20)))
def scopedv_Tell.T11 : Bool × List (List Nat × List Nat) := (true, [([], []), ([], []), ([0, 1], [0, 1]), ([2], [2]), ([3, 2], [3]), ([4], [4]), ([5, 4], [4, 5]), ([6, 4, 4], [4, 6]), ([7], [7]), ([7], [7]), ([9, 7], [7, 9]), ([8, 10, 7], [7, 8, 10]), ([11, 7], [7, 11]), ([7], [7]), ([12, 13, 7, 7], [7, 12, 13]), ([14, 7], [7, 14]), ([7, 15, 4], [4, 7, 15]), ([4, 16], [4, 16])])
def scopedv_Tell.B11 : List Nat := [0, 0, 3, 7, 15, 31, 63, 127, 255, 255, 767, 2047, 4095, 255, 16383, 32767, 65535, 131071]
theorem scopedv_Tell.tab11 : rtab .any (opsOf Try.f20 11) = scopedv_Tell.T11 := by kernel_rfl
theorem scopedv_Tell.bits11 : waitsOk scopedv_Tell.T11.2 scopedv_Tell.B11 = true := by kernel_rfl
set_option maxHeartbeats 8000000 in
set_option maxRecDepth 100000 in
theorem scopedv_Tell.calls (k : Nat) (a0 : Int) (a1_0 : Int) (a1_1 : Int) (a1_2 : Nat) (A2 : Option Addr) (c2 : Nat) (l2 : List (S58)) (r1 : List (S56)) (r2 : Int) (w : World) (hr2 : Kd.C k58 w A2 l2.length l2) (hc2 : l2.length ≤ c2) (h : scopedv_Tell.f k a0 a1_0 a1_1 a1_2 l2 = some (r1, r2)) :
  Calls Try.prog 20 #[.int .i64 a0, .agg #[.int .i64 a1_0, .int .i64 a1_1, .float .f64 a1_2], .slice A2 l2.length c2] w fun e w' => ∃ v0_ : Value, e = .returned (.tuple #[v0_, .int .i64 r2]) ∧ Kd.R k56 56 w' w.heap.size (fun _ => True) v0_ r1 ∧ Below w.heap.size w w' := by
 have hu34 := Try.underlying34
 have hu56 := Try.underlying56
 have hu58 := Try.underlying58
 have HR2 := Aside0.mk hr2
 have HC2 := Aside0.mk hc2
 clear hr2 hc2
 have HB := Aside0.mk (Below.refl w.heap.size w)
 have H : ((scopedv_number.f k a0).bind fun t523 => (if t523 = true then ((scopedv_homed.f k a0 a1_0 a1_1 a1_2).bind fun t524 => (if t524 = true then (if a1_1 = a0 then (scopedv_Tell.j0 k a0 l2 ([] : List (S56))) else (if ([] : List (S56)).length < 3518437208883 then (scopedv_Tell.j0 k a0 l2 (([] : List (S56)) ++ [(⟨a0, 2, 0, a1_2, a1_1⟩ : S56)])) else (none))) else (some (([] : List (S56)), 1)))) else (some (([] : List (S56)), 20)))) = some (r1, r2) := h
 clear h
 replace H := bs_ H; obtain ⟨t523, A4, H⟩ := H
 by_cases c5 : t523 = true
 ·subst c5
  have H1 : ((scopedv_homed.f k a0 a1_0 a1_1 a1_2).bind fun t524 => (if t524 = true then (if a1_1 = a0 then (scopedv_Tell.j0 k a0 l2 ([] : List (S56))) else (if ([] : List (S56)).length < 3518437208883 then (scopedv_Tell.j0 k a0 l2 (([] : List (S56)) ++ [(⟨a0, 2, 0, a1_2, a1_1⟩ : S56)])) else (none))) else (some (([] : List (S56)), 1)))) = some (r1, r2) := by rw [if_pos rfl] at H; exact H
  clear H
  have H := H1
  clear H1
  replace H := bs_ H; obtain ⟨t524, A6, H⟩ := H
  by_cases c7 : t524 = true
  ·subst c7
   have H1 : (if a1_1 = a0 then (scopedv_Tell.j0 k a0 l2 ([] : List (S56))) else (if ([] : List (S56)).length < 3518437208883 then (scopedv_Tell.j0 k a0 l2 (([] : List (S56)) ++ [(⟨a0, 2, 0, a1_2, a1_1⟩ : S56)])) else (none))) = some (r1, r2) := by rw [if_pos rfl] at H; exact H
   clear H
   have H := H1
   clear H1
   have HC8 := Aside0.mk H
   clear H
   go_enter Try.func20, Try.ntmps20
   go_upto_if 21 with (first | ((with_reducible refine gate_dst (N := 4) rfl ?_); refine bx_ (N := 4) #[.int .i64 a1_0, .int .i64 a1_1, .float .f64 a1_2] 34 ⟨fb⟩ ?_; clear HB; intro gb522 w9 HB BK522 GE522; have GW522 := GE522) | ((with_reducible refine gate_callee (f := 54) rfl ?_); refine gl_ (some 12) Try.func54 #[.int .i64 a0] ?_; (with_reducible refine (scopedv_number.calls k a0 true _ A4.out).mono ?_); rintro e w' ⟨rfl, ⟨nd, rfl⟩⟩; refine ⟨_, rfl, ?_⟩; obtain ⟨hcz10_0, hcz10_1, hcz10_2, hfz10_0, hfz10_1, hfz10_2⟩ := cz3 BK522.out) | ((with_reducible refine gate_callee (f := 55) rfl ?_); refine gl_ (some 16) Try.func55 #[.int .i64 a0, .agg #[.int .i64 a1_0, .int .i64 a1_1, .float .f64 a1_2]] ?_; (with_reducible refine (scopedv_homed.calls k a0 a1_0 a1_1 a1_2 true _ A6.out).mono ?_); rintro e w11 ⟨rfl, hb⟩; refine ⟨_, rfl, ?_⟩; have n0_ := Aside0.mk (blk_below (g := gb522) (o := .cells #[.int .i64 a1_0, .int .i64 a1_1, .float .f64 a1_2] 34 (0, 0)) (kp BK522.out) hb); have n1_ := Aside0.mk (below_step (fb1 GE522) hb); clear BK522; clear HB; have BK522 := n0_; have HB := n1_; clear n0_ n1_; (try clear hb); obtain ⟨hcz12_0, hcz12_1, hcz12_2, hfz12_0, hfz12_1, hfz12_2⟩ := cz3 BK522.out))
   (try simp only [Act.put, qa, qb, qc])
   go_cut [8] (fun v8 wc => ∃ (kq : Nat) (x8_7 : List (S56)), Aside0 (scopedv_Tell.j0 kq a0 l2 x8_7 = some (r1, r2)) ∧ Aside0 (kq ≤ k) ∧ Aside0 (Kd.R k56 56 wc w.heap.size (fun _ => True) v8 x8_7) ∧ Aside0 (wc.heap[gb522]? = some (.cells #[.int .i64 a1_0, .int .i64 a1_1, .float .f64 a1_2] 34 (0, 0))) ∧ Aside0 (Below w.heap.size w wc))
   case first =>
    have H := HC8.out
    clear HC8
    by_cases c13 : a1_1 = a0
    ·rw [if_pos c13] at H
     have c13b0 := be_ c13
     have c13b1 := bg_ c13
     clear c13
     (first | rw [c13b0] | (simp only [i64_w, i32_w]; rw [c13b0]) | skip)
     have H' := Aside0.mk H
     clear H
     go_wp2
     go_meet
     case rel => exact ⟨_, (([] : List (S56))), H', ⟨fl⟩, ⟨by first | exact Kd.R_nil _ _ _ _ _ | exact Kd.N_nil _ _ _ _ _ | exact Kd.V_nil _ _ _ _ _ | exact Kd.Q_nil _ _ _ _ _ | exact Kd.S_nil _ _ _ _ _⟩, ⟨kp BK522.out⟩, ⟨fb1 GE522⟩⟩
    ·rw [if_neg c13] at H
     have c13b0 := bh_ c13
     have c13b1 := bi_ c13
     (first | rw [c13b0] | (simp only [i64_w, i32_w]; rw [c13b0]) | skip)
     by_cases c14 : ([] : List (S56)).length < 3518437208883
     ·rw [if_pos c14] at H
      have LMc14 := Aside0.mk c14
      clear c14
      obtain ⟨y525, hy525⟩ : ∃ y_ : List (S56), y_ = (([] : List (S56)) ++ [(⟨a0, 2, 0, a1_2, a1_1⟩ : S56)]) := ⟨_, rfl⟩
      replace H : (scopedv_Tell.j0 k a0 l2 y525) = some (r1, r2) := by first | (rw [hy525]; with_reducible exact H) | (have H2_ := (Option.bind_some _ _).symm.trans H; rw [hy525]; with_reducible exact H2_) | (have H2_ := (Option.bind_some _ _).symm.trans H; with_reducible exact H2_) | with_reducible exact H | (rw [hy525]; exact H) | exact H
      have Ny525 := Aside0.mk hy525
      clear hy525
      have H' := Aside0.mk H
      clear H
      obtain ⟨hcz15_0, hcz15_1, hcz15_2, hfz15_0, hfz15_1, hfz15_2⟩ := cz3 BK522.out
      go_wp2_with (first | ((with_reducible refine gate_builtin (b := .append) (xs := #[.tmp 22, .tmp 29]) rfl ?_); at_builtin; refine Kd.R_append k56 (w0 := w) w.heap.size rfl (.tmp 22) (.tmp 29) 35 56 (.agg #[(.int .i64 0), (.int .i64 0), (.float .f64 0), (.float .f64 0), (.int .i64 0)]) 40 rfl Try.underlying35 info56 rfl (by decide) (by omega) (.slice none 0 0) ([] : List (S56)) (⟨a0, 2, 0, a1_2, a1_1⟩ : S56) [.int .i64 a0, .int .i64 2, .float .f64 0, .float .f64 a1_2, .int .i64 a1_1] (fun _ => True) (fun _ => False) rfl rfl ?aP (fun _ hk => hk.elim) ?aF ?aO ?aB ?aS ?aL ?_; (case aP => exact k56_mkM _ _ _ (⟨a0, 2, 0, a1_2, a1_1⟩ : S56)); (case aB => exact (fb1 GE522)); (case aF => exact (fun _ _ => trivial)); (case aO => exact ((Kd.R_nil _ _ _ _ (fun _ => True)))); (case aS => exact (below_size (fb1 GE522))); (case aL => have := LMc14.out; omega); intro v526 w16 ho hb hg hat; rw [← Ny525.out] at ho; have n0_ := Aside0.mk (blk_grown (g := gb522) (o := .cells #[.int .i64 a1_0, .int .i64 a1_1, .float .f64 a1_2] 34 (0, 0)) (kp BK522.out) hg (by simp [Value.ownBlock])); have n1_ := Aside0.mk (hb); have n2_ := Aside0.mk (ho); clear BK522; clear HB; have BK522 := n0_; have HB := n1_; have HO527 := n2_; clear n0_ n1_ n2_; clear ho hb hg hat))
      go_meet
      case rel => exact ⟨_, (y525), H', ⟨fl⟩, ⟨by (with_reducible repeat (first | apply Kd.R_alloc | apply Kd.R_drewN | apply Kd.R_drew)); exact HO527.out⟩, ⟨kp BK522.out⟩, ⟨fb1 GE522⟩⟩
     ·rw [if_neg c14] at H
      exact absurd H (by simp)
   case rest =>
    clear HC8
    (try clear c2); (try clear c5); (try clear c7); (try clear hcz10_0); (try clear hcz10_1); (try clear hcz10_2); (try clear hcz12_0); (try clear hcz12_1); (try clear hcz12_2); (try clear hfz10_0); (try clear hfz10_1); (try clear hfz10_2); (try clear hfz12_0); (try clear hfz12_1); (try clear hfz12_2)
    obtain ⟨kq, x8_7, HA, HJ7, HO_8, BK522, HB⟩ := hcut
    cases kq with
    | zero => exact absurd HA.out (by simp [scopedv_Tell.j0])
    | succ kj7 =>
     have H := HA.out
     clear HA
     simp only [scopedv_Tell.j0] at H
     have H' := Aside0.mk H
     clear H
     go_wp2
     go_loopg [8, 33] kj7 (fun kq v8 v33 w' => ∃ (x8_2 : List (S56)) (x33_2 : Int), v33 = .int .i64 x33_2 ∧ Aside0 (scopedv_Tell.l0 kq a0 l2 x8_2 l2 (l2.length : Int) x33_2 = some (r1, r2)) ∧ Aside0 (kq ≤ kj7) ∧ Aside0 (Kd.R k56 56 w' w.heap.size (fun _ => True) v8 x8_2) ∧ Aside0 (w'.heap[gb522]? = some (.cells #[.int .i64 a1_0, .int .i64 a1_1, .float .f64 a1_2] 34 (0, 0))) ∧ Aside0 (Below w.heap.size w w'))
     case atStart => exact ⟨(x8_7), (0), fz, H', ⟨Nat.le_refl _⟩, ⟨by (with_reducible repeat (first | apply Kd.R_alloc | apply Kd.R_drewN | apply Kd.R_drew)); exact HO_8.out⟩, ⟨kp BK522.out⟩, ⟨fb1 GE522⟩⟩
     case round =>
      clear H'
      (try clear c2); (try clear c5); (try clear c7); (try clear hcz10_0); (try clear hcz10_1); (try clear hcz10_2); (try clear hcz12_0); (try clear hcz12_1); (try clear hcz12_2); (try clear hfz10_0); (try clear hfz10_1); (try clear hfz10_2); (try clear hfz12_0); (try clear hfz12_1); (try clear hfz12_2)
      obtain ⟨x8_2, x33_2, rfl, HA, HK2, HO_8, BK522, HB⟩ := hrel
      cases gk with
      | zero => exact absurd HA.out (by simp [scopedv_Tell.l0])
      | succ k2 =>
       have H := HA.out
       clear HA
       simp only [scopedv_Tell.l0] at H
       by_cases c17 : x33_2 < (l2.length : Int)
       ·rw [if_pos c17] at H
        have c17b0 := decide_eq_true c17
        clear c17
        by_cases c18 : 0 ≤ x33_2
        ·rw [if_pos c18] at H
         have c18b0 := decide_eq_true c18
         clear c18
         by_cases c19 : x33_2 < (l2.length : Int)
         ·rw [if_pos c19] at H
          have c19b0 := decide_eq_true c19
          clear c19
          have HC20 := Aside0.mk H
          clear H
          have p528 : 0 ≤ (x33_2 : Int) := of_decide_eq_true (by first | (with_reducible assumption) | assumption)
          have q528 : x33_2 < (l2.length : Int) := of_decide_eq_true (by first | (with_reducible assumption) | assumption)
          obtain ⟨ad528, e528, hx528_0, hx528_1, hx528_2, hx528_3, hx528_4, hx528_5⟩ := at_T58 HR2.out x33_2 p528 q528
          cases e528
          replace hx528_0 := pw_cell_below HB.out hx528_0
          replace hx528_1 := pw_cell_below HB.out hx528_1
          replace hx528_2 := pw_cell_below HB.out hx528_2
          replace hx528_3 := pw_cell_below HB.out hx528_3
          replace hx528_4 := pw_cell_below HB.out hx528_4
          replace hx528_5 := pw_cell_below HB.out hx528_5
          replace p528 := eq_true p528
          replace q528 := eq_true q528
          go_upto_region 11 with (first | ((with_reducible refine gate_dst (N := 10) rfl ?_); refine bz_ (N := 10) #[.int .i64 0, .int .i64 0, .float .f64 0, .int .i64 0, .float .f64 0, .int .i64 0] 58 ?_; intro gb529 hg w21 hbox hb; have n0_ := Aside0.mk (Kd.R_below (by (with_reducible repeat (first | apply Kd.R_alloc | apply Kd.R_drewN | apply Kd.R_drew)); exact HO_8.out) hb); have n1_ := Aside0.mk (blk_below (g := gb522) (o := .cells #[.int .i64 a1_0, .int .i64 a1_1, .float .f64 a1_2] 34 (0, 0)) (kp BK522.out) hb); have n2_ := Aside0.mk (below_step (fb1 GE522) hb); have n3_ := Aside0.mk (hbox); have n4_ := Aside0.mk ((by rw [hg]; exact (below_size (fb1 GE522)) : w.heap.size ≤ gb529)); have n5_ := Aside0.mk ((by rw [hg]; exact (below_size (fb1 GE522)) : w.heap.size ≤ gb529)); have n6_ := Aside0.mk ((by rw [hg]; exact Nat.ne_of_lt (blk_lt (g := gb522) (o := .cells #[.int .i64 a1_0, .int .i64 a1_1, .float .f64 a1_2] 34 (0, 0)) (kp BK522.out)) : gb522 ≠ gb529)); have n7_ := Aside0.mk ((by rw [hg]; exact Nat.ne_of_gt (blk_lt (g := gb522) (o := .cells #[.int .i64 a1_0, .int .i64 a1_1, .float .f64 a1_2] 34 (0, 0)) (kp BK522.out)) : gb529 ≠ gb522)); clear HO_8; clear BK522; clear HB; have HO_8 := n0_; have BK522 := n1_; have HB := n2_; have BK529 := n3_; have GW529 := n4_; have GE529 := n5_; have NB522_529 := n6_; have NB529_522 := n7_; clear n0_ n1_ n2_ n3_ n4_ n5_ n6_ n7_; clear hb hbox hg; have hnb22 := NB529_522.out; have hnc22 := NB522_529.out; obtain ⟨hcz23_0, hcz23_1, hcz23_2, hcz23_3, hcz23_4, hcz23_5, hfz23_0, hfz23_1, hfz23_2, hfz23_3, hfz23_4, hfz23_5⟩ := cz6 BK529.out))
          (try simp only [Act.put, qa, qb, qc])
          go_cut [55] (fun v55 wc => ∃ (kq : Nat) (x55_19 : Bool), v55 = .bool x55_19 ∧ Aside0 (scopedv_Tell.j2 kq a0 l2 x8_2 l2 (l2.length : Int) x33_2 x55_19 ((rd_T58 l2 x33_2).f0) ((rd_T58 l2 x33_2).f1) ((rd_T58 l2 x33_2).f2) ((rd_T58 l2 x33_2).f3) ((rd_T58 l2 x33_2).f4) ((rd_T58 l2 x33_2).f5) = some (r1, r2)) ∧ Aside0 (kq ≤ k2) ∧ Aside0 (Kd.R k56 56 wc w.heap.size (fun _ => True) u8 x8_2) ∧ Aside0 (wc.heap[gb522]? = some (.cells #[.int .i64 a1_0, .int .i64 a1_1, .float .f64 a1_2] 34 (0, 0))) ∧ Aside0 (wc.heap[gb529]? = some (.cells #[.int .i64 ((rd_T58 l2 x33_2).f0), .int .i64 ((rd_T58 l2 x33_2).f1), .float .f64 ((rd_T58 l2 x33_2).f2), .int .i64 ((rd_T58 l2 x33_2).f3), .float .f64 ((rd_T58 l2 x33_2).f4), .int .i64 ((rd_T58 l2 x33_2).f5)] 58 (0, 0))) ∧ Aside0 (Below w.heap.size w wc))
          case first =>
           have H := HC20.out
           clear HC20
           replace H := bs_ H; obtain ⟨t530, A24, H⟩ := H
           by_cases c25 : t530 = true
           ·subst c25
            have H1 : (if x33_2 > 0 then (if 0 ≤ (wrap64 (x33_2 - 1)) then (if (wrap64 (x33_2 - 1)) < (l2.length : Int) then ((scopedv_order.f ((rd_T58 l2 (wrap64 (x33_2 - 1))).f0) ((rd_T58 l2 (wrap64 (x33_2 - 1))).f1) ((rd_T58 l2 (wrap64 (x33_2 - 1))).f2) ((rd_T58 l2 (wrap64 (x33_2 - 1))).f3) ((rd_T58 l2 (wrap64 (x33_2 - 1))).f4) ((rd_T58 l2 (wrap64 (x33_2 - 1))).f5) ((rd_T58 l2 x33_2).f0) ((rd_T58 l2 x33_2).f1) ((rd_T58 l2 x33_2).f2) ((rd_T58 l2 x33_2).f3) ((rd_T58 l2 x33_2).f4) ((rd_T58 l2 x33_2).f5)).bind fun t532 => (scopedv_Tell.j2 k2 a0 l2 x8_2 l2 (l2.length : Int) x33_2 (decide (t532 ≥ 0)) ((rd_T58 l2 x33_2).f0) ((rd_T58 l2 x33_2).f1) ((rd_T58 l2 x33_2).f2) ((rd_T58 l2 x33_2).f3) ((rd_T58 l2 x33_2).f4) ((rd_T58 l2 x33_2).f5))) else (none)) else (none)) else (scopedv_Tell.j2 k2 a0 l2 x8_2 l2 (l2.length : Int) x33_2 false ((rd_T58 l2 x33_2).f0) ((rd_T58 l2 x33_2).f1) ((rd_T58 l2 x33_2).f2) ((rd_T58 l2 x33_2).f3) ((rd_T58 l2 x33_2).f4) ((rd_T58 l2 x33_2).f5))) = some (r1, r2) := by rw [if_pos rfl] at H; exact H
            clear H
            have H := H1
            clear H1
            by_cases c26 : x33_2 > 0
            ·rw [if_pos c26] at H
             have c26b0 := decide_eq_true c26
             clear c26
             (first | rw [c26b0] | (simp only [i64_w, i32_w]; rw [c26b0]) | skip)
             obtain ⟨ji27, hji27⟩ : ∃ j_ : Int, (wrap64 (x33_2 - 1)) = j_ := ⟨_, rfl⟩
             replace H : (if 0 ≤ (ji27) then (if (ji27) < (l2.length : Int) then ((scopedv_order.f ((rd_T58 l2 (ji27)).f0) ((rd_T58 l2 (ji27)).f1) ((rd_T58 l2 (ji27)).f2) ((rd_T58 l2 (ji27)).f3) ((rd_T58 l2 (ji27)).f4) ((rd_T58 l2 (ji27)).f5) ((rd_T58 l2 x33_2).f0) ((rd_T58 l2 x33_2).f1) ((rd_T58 l2 x33_2).f2) ((rd_T58 l2 x33_2).f3) ((rd_T58 l2 x33_2).f4) ((rd_T58 l2 x33_2).f5)).bind fun t532 => (scopedv_Tell.j2 k2 a0 l2 x8_2 l2 (l2.length : Int) x33_2 (decide (t532 ≥ 0)) ((rd_T58 l2 x33_2).f0) ((rd_T58 l2 x33_2).f1) ((rd_T58 l2 x33_2).f2) ((rd_T58 l2 x33_2).f3) ((rd_T58 l2 x33_2).f4) ((rd_T58 l2 x33_2).f5))) else (none)) else (none)) = some (r1, r2) := by first | (rw [hji27] at H; exact H) | (simp only [hji27] at H ⊢; exact H)
             (try rw [hji27] at A24)
             have hji27w : (IntKind.i64.wrap (x33_2 - 1)) = ji27 := (i64_w _).trans hji27
             by_cases c28 : 0 ≤ (ji27)
             ·rw [if_pos c28] at H
              have c28b0 := decide_eq_true c28
              clear c28
              by_cases c29 : (ji27) < (l2.length : Int)
              ·rw [if_pos c29] at H
               have c29b0 := decide_eq_true c29
               clear c29
               replace H := bs_ H; obtain ⟨t532, A30, H⟩ := H
               have H' := Aside0.mk H
               clear H
               try go_wp2
               have n0_ : Aside0 (Kd.R k56 56 ((((((w21.setCell ⟨gb529, 0, none⟩ (.int .i64 ((rd_T58 l2 x33_2).f0))).setCell ⟨gb529, 1, none⟩ (.int .i64 ((rd_T58 l2 x33_2).f1))).setCell ⟨gb529, 2, none⟩ (.float .f64 ((rd_T58 l2 x33_2).f2))).setCell ⟨gb529, 3, none⟩ (.int .i64 ((rd_T58 l2 x33_2).f3))).setCell ⟨gb529, 4, none⟩ (.float .f64 ((rd_T58 l2 x33_2).f4))).setCell ⟨gb529, 5, none⟩ (.int .i64 ((rd_T58 l2 x33_2).f5))) w.heap.size (fun _ => True) u8 x8_2) := ⟨by (with_reducible repeat (first | apply Kd.R_alloc | apply Kd.R_drewN | apply Kd.R_drew)); exact Kd.R_mono (Kd.R_far (p := ⟨gb529, 5, none⟩) (Kd.R_far (p := ⟨gb529, 4, none⟩) (Kd.R_far (p := ⟨gb529, 3, none⟩) (Kd.R_far (p := ⟨gb529, 2, none⟩) (Kd.R_far (p := ⟨gb529, 1, none⟩) (Kd.R_far (p := ⟨gb529, 0, none⟩) (Kd.R_types HO_8.out BK529.out (by decide)) (fun _ hk => hk.2) (.int .i64 ((rd_T58 l2 x33_2).f0))) (fun _ hk => hk.2) (.int .i64 ((rd_T58 l2 x33_2).f1))) (fun _ hk => hk.2) (.float .f64 ((rd_T58 l2 x33_2).f2))) (fun _ hk => hk.2) (.int .i64 ((rd_T58 l2 x33_2).f3))) (fun _ hk => hk.2) (.float .f64 ((rd_T58 l2 x33_2).f4))) (fun _ hk => hk.2) (.int .i64 ((rd_T58 l2 x33_2).f5))) (fun _ hk => trivial)⟩
               have n1_ : Aside0 (((((((w21.setCell ⟨gb529, 0, none⟩ (.int .i64 ((rd_T58 l2 x33_2).f0))).setCell ⟨gb529, 1, none⟩ (.int .i64 ((rd_T58 l2 x33_2).f1))).setCell ⟨gb529, 2, none⟩ (.float .f64 ((rd_T58 l2 x33_2).f2))).setCell ⟨gb529, 3, none⟩ (.int .i64 ((rd_T58 l2 x33_2).f3))).setCell ⟨gb529, 4, none⟩ (.float .f64 ((rd_T58 l2 x33_2).f4))).setCell ⟨gb529, 5, none⟩ (.int .i64 ((rd_T58 l2 x33_2).f5))).heap[gb522]? = some (.cells #[.int .i64 a1_0, .int .i64 a1_1, .float .f64 a1_2] 34 (0, 0))) := ⟨kp1 NB522_529 BK522.out⟩
               have n2_ : Aside0 (((((((w21.setCell ⟨gb529, 0, none⟩ (.int .i64 ((rd_T58 l2 x33_2).f0))).setCell ⟨gb529, 1, none⟩ (.int .i64 ((rd_T58 l2 x33_2).f1))).setCell ⟨gb529, 2, none⟩ (.float .f64 ((rd_T58 l2 x33_2).f2))).setCell ⟨gb529, 3, none⟩ (.int .i64 ((rd_T58 l2 x33_2).f3))).setCell ⟨gb529, 4, none⟩ (.float .f64 ((rd_T58 l2 x33_2).f4))).setCell ⟨gb529, 5, none⟩ (.int .i64 ((rd_T58 l2 x33_2).f5))).heap[gb529]? = some (.cells #[.int .i64 ((rd_T58 l2 x33_2).f0), .int .i64 ((rd_T58 l2 x33_2).f1), .float .f64 ((rd_T58 l2 x33_2).f2), .int .i64 ((rd_T58 l2 x33_2).f3), .float .f64 ((rd_T58 l2 x33_2).f4), .int .i64 ((rd_T58 l2 x33_2).f5)] 58 (0, 0))) := ⟨kp BK529.out⟩
               have n3_ : Aside0 (Below w.heap.size w ((((((w21.setCell ⟨gb529, 0, none⟩ (.int .i64 ((rd_T58 l2 x33_2).f0))).setCell ⟨gb529, 1, none⟩ (.int .i64 ((rd_T58 l2 x33_2).f1))).setCell ⟨gb529, 2, none⟩ (.float .f64 ((rd_T58 l2 x33_2).f2))).setCell ⟨gb529, 3, none⟩ (.int .i64 ((rd_T58 l2 x33_2).f3))).setCell ⟨gb529, 4, none⟩ (.float .f64 ((rd_T58 l2 x33_2).f4))).setCell ⟨gb529, 5, none⟩ (.int .i64 ((rd_T58 l2 x33_2).f5)))) := ⟨fb2 GE522 GE529⟩
               (try clear HO_8)
               (try clear BK522)
               (try clear BK529)
               (try clear HB)
               generalize ((((((w21.setCell ⟨gb529, 0, none⟩ (.int .i64 ((rd_T58 l2 x33_2).f0))).setCell ⟨gb529, 1, none⟩ (.int .i64 ((rd_T58 l2 x33_2).f1))).setCell ⟨gb529, 2, none⟩ (.float .f64 ((rd_T58 l2 x33_2).f2))).setCell ⟨gb529, 3, none⟩ (.int .i64 ((rd_T58 l2 x33_2).f3))).setCell ⟨gb529, 4, none⟩ (.float .f64 ((rd_T58 l2 x33_2).f4))).setCell ⟨gb529, 5, none⟩ (.int .i64 ((rd_T58 l2 x33_2).f5))) = w31 at n0_ n1_ n2_ n3_ ⊢
               have HO_8 := n0_
               have BK522 := n1_
               have BK529 := n2_
               have HB := n3_
               clear n0_ n1_ n2_ n3_
               have n0_ := Aside0.mk (Kd.R_drew HO_8.out)
               have n1_ := Aside0.mk (blk_drew BK522.out)
               have n2_ := Aside0.mk (blk_drew BK529.out)
               have n3_ := Aside0.mk (below_drew1 HB.out)
               clear HO_8
               clear BK522
               clear BK529
               clear HB
               have HO_8 := n0_
               have BK522 := n1_
               have BK529 := n2_
               have HB := n3_
               clear n0_ n1_ n2_ n3_
               have p531 : 0 ≤ ((ji27) : Int) := of_decide_eq_true (by first | (with_reducible assumption) | assumption)
               have q531 : (ji27) < (l2.length : Int) := of_decide_eq_true (by first | (with_reducible assumption) | assumption)
               obtain ⟨ad531, e531, hx531_0, hx531_1, hx531_2, hx531_3, hx531_4, hx531_5⟩ := at_T58 HR2.out (ji27) p531 q531
               have hw531_5 := hx531_5
               have hw531_4 := hx531_4
               have hw531_3 := hx531_3
               have hw531_2 := hx531_2
               have hw531_1 := hx531_1
               have hw531_0 := hx531_0
               obtain rfl : ad528 = ad531 := (by injection e531)
               replace hx531_0 := pw_cell_below HB.out hx531_0
               replace hx531_1 := pw_cell_below HB.out hx531_1
               replace hx531_2 := pw_cell_below HB.out hx531_2
               replace hx531_3 := pw_cell_below HB.out hx531_3
               replace hx531_4 := pw_cell_below HB.out hx531_4
               replace hx531_5 := pw_cell_below HB.out hx531_5
               replace p531 := eq_true p531
               replace q531 := eq_true q531
               refine start_ (n := 18) (S := fun w' => w'.cell? ⟨gb529, 0, none⟩ = some (.int .i64 ((rd_T58 l2 x33_2).f0)) ∧ w'.cell? ⟨gb529, 1, none⟩ = some (.int .i64 ((rd_T58 l2 x33_2).f1)) ∧ w'.cell? ⟨gb529, 2, none⟩ = some (.float .f64 ((rd_T58 l2 x33_2).f2)) ∧ w'.cell? ⟨gb529, 3, none⟩ = some (.int .i64 ((rd_T58 l2 x33_2).f3)) ∧ w'.cell? ⟨gb529, 4, none⟩ = some (.float .f64 ((rd_T58 l2 x33_2).f4)) ∧ w'.cell? ⟨gb529, 5, none⟩ = some (.int .i64 ((rd_T58 l2 x33_2).f5)) ∧ w'.cell? (ad528.add (((ji27)).toNat * 6)) = some (.int .i64 ((rd_T58 l2 (ji27)).f0)) ∧ w'.cell? ⟨(ad528.add (((ji27)).toNat * 6)).block, (ad528.add (((ji27)).toNat * 6)).off + 1, none⟩ = some (.int .i64 ((rd_T58 l2 (ji27)).f1)) ∧ w'.cell? ⟨(ad528.add (((ji27)).toNat * 6)).block, (ad528.add (((ji27)).toNat * 6)).off + 2, none⟩ = some (.float .f64 ((rd_T58 l2 (ji27)).f2)) ∧ w'.cell? ⟨(ad528.add (((ji27)).toNat * 6)).block, (ad528.add (((ji27)).toNat * 6)).off + 3, none⟩ = some (.int .i64 ((rd_T58 l2 (ji27)).f3)) ∧ w'.cell? ⟨(ad528.add (((ji27)).toNat * 6)).block, (ad528.add (((ji27)).toNat * 6)).off + 4, none⟩ = some (.float .f64 ((rd_T58 l2 (ji27)).f4)) ∧ w'.cell? ⟨(ad528.add (((ji27)).toNat * 6)).block, (ad528.add (((ji27)).toNat * 6)).off + 5, none⟩ = some (.int .i64 ((rd_T58 l2 (ji27)).f5))) (ds := []) (bz 18 0) (by kernel_rfl) rfl rfl ⟨(blk_cell BK529.out 0).trans rfl, (blk_cell BK529.out 1).trans rfl, (blk_cell BK529.out 2).trans rfl, (blk_cell BK529.out 3).trans rfl, (blk_cell BK529.out 4).trans rfl, (blk_cell BK529.out 5).trans rfl, ((HB.out.cell (World.block_lt_of_cell? w _ hw531_0)).trans hw531_0), ((HB.out.cell (World.block_lt_of_cell? w _ hw531_1)).trans hw531_1), ((HB.out.cell (World.block_lt_of_cell? w _ hw531_2)).trans hw531_2), ((HB.out.cell (World.block_lt_of_cell? w _ hw531_3)).trans hw531_3), ((HB.out.cell (World.block_lt_of_cell? w _ hw531_4)).trans hw531_4), ((HB.out.cell (World.block_lt_of_cell? w _ hw531_5)).trans hw531_5)⟩ (fun hHeld => ?_); refine with_tabW scopedv_Tell.tab11 scopedv_Tell.bits11 (fun HT_ HW_ => ?_)
               generalize w31.drew = w32 at HO_8 BK522 BK529 HB hx531_0 hx531_1 hx531_2 hx531_3 hx531_4 hx531_5 hHeld ⊢
               refine pu2 0 (some 38) (bz 18 1) ?_
               refine tk2 1 (some 39) (bz 18 3) ?_
               refine one_ (i := 2) (N := some 40) (bz 18 7) rfl rfl (one_of HT_.out (by kernel_rfl)) (by decide) (fun K hK => ?_)
               refine goes_ Try.func56 (by kernel_rfl) rfl #[.int .i64 a0, .agg #[.int .i64 ((rd_T58 l2 x33_2).f0), .int .i64 ((rd_T58 l2 x33_2).f1), .float .f64 ((rd_T58 l2 x33_2).f2), .int .i64 ((rd_T58 l2 x33_2).f3), .float .f64 ((rd_T58 l2 x33_2).f4), .int .i64 ((rd_T58 l2 x33_2).f5)]] (by rfl) rfl rfl (by (try simp only [List.map_toArray, List.map_cons, List.map_nil]); first | done | rfl | (simp only [List.length_drop, List.length_take]; rfl)) ?_
               with_reducible refine (scopedv_ball.calls k2 a0 ((rd_T58 l2 x33_2).f0) ((rd_T58 l2 x33_2).f1) ((rd_T58 l2 x33_2).f2) ((rd_T58 l2 x33_2).f3) ((rd_T58 l2 x33_2).f4) ((rd_T58 l2 x33_2).f5) true _ A24.out).mono ?_
               rintro e w33 ⟨rfl, hb⟩
               refine ⟨_, rfl, ?_⟩
               have n0_ := Aside0.mk (Kd.R_below (by (with_reducible repeat (first | apply Kd.R_alloc | apply Kd.R_drewN | apply Kd.R_drew)); exact HO_8.out) hb)
               have n1_ := Aside0.mk (blk_below (g := gb522) (o := .cells #[.int .i64 a1_0, .int .i64 a1_1, .float .f64 a1_2] 34 (0, 0)) (kp BK522.out) hb)
               have n2_ := Aside0.mk (blk_below (g := gb529) (o := .cells #[.int .i64 ((rd_T58 l2 x33_2).f0), .int .i64 ((rd_T58 l2 x33_2).f1), .float .f64 ((rd_T58 l2 x33_2).f2), .int .i64 ((rd_T58 l2 x33_2).f3), .float .f64 ((rd_T58 l2 x33_2).f4), .int .i64 ((rd_T58 l2 x33_2).f5)] 58 (0, 0)) (kp BK529.out) hb)
               have n3_ := Aside0.mk (below_step (fb2 GE522 GE529) hb)
               clear HO_8
               clear BK522
               clear BK529
               clear HB
               have HO_8 := n0_
               have BK522 := n1_
               have BK529 := n2_
               have HB := n3_
               clear n0_ n1_ n2_ n3_
               (try clear hb)
               (try clear hk)
               refine hK.out _ _ ⟨(blk_cell BK529.out 0).trans rfl, (blk_cell BK529.out 1).trans rfl, (blk_cell BK529.out 2).trans rfl, (blk_cell BK529.out 3).trans rfl, (blk_cell BK529.out 4).trans rfl, (blk_cell BK529.out 5).trans rfl, ((HB.out.cell (World.block_lt_of_cell? w _ hw531_0)).trans hw531_0), ((HB.out.cell (World.block_lt_of_cell? w _ hw531_1)).trans hw531_1), ((HB.out.cell (World.block_lt_of_cell? w _ hw531_2)).trans hw531_2), ((HB.out.cell (World.block_lt_of_cell? w _ hw531_3)).trans hw531_3), ((HB.out.cell (World.block_lt_of_cell? w _ hw531_4)).trans hw531_4), ((HB.out.cell (World.block_lt_of_cell? w _ hw531_5)).trans hw531_5)⟩ (fun hHeld => ?_)
               clear hK K
               refine norm_ (a' := ?_) ?_ ?_; rotate_left; show Act.put _ (some 40) _ = _; simp only [Act.put, qa, qb, qc, i64_w, i32_w]; rfl
               refine pu2 3 (some 41) (bz 18 15) ?_
               refine pu2 4 (some 42) (bz 18 31) ?_
               refine pu2 5 (some 43) (bz 18 63) ?_
               refine pu2 6 (some 44) (bz 18 127) ?_
               refine pu2 7 (some 45) (bz 18 255) ?_
               refine pu2 8 (some 46) (bz 18 511) ?_
               refine pu2 9 (some 47) (bz 18 1023) ?_
               refine pu2 10 (some 48) (bz 18 2047) ?_
               refine pu2 11 (some 49) (bz 18 4095) ?_
               refine tk2 12 (some 50) (bz 18 8191) ?_
               refine tk2 13 (some 51) (bz 18 16383) ?_
               refine one_ (i := 14) (N := some 52) (bz 18 32767) rfl rfl (one_of HT_.out (by kernel_rfl)) (by decide) (fun K hK => ?_)
               refine goes_ Try.func35 (by kernel_rfl) rfl #[.agg #[.int .i64 ((rd_T58 l2 (ji27)).f0), .int .i64 ((rd_T58 l2 (ji27)).f1), .float .f64 ((rd_T58 l2 (ji27)).f2), .int .i64 ((rd_T58 l2 (ji27)).f3), .float .f64 ((rd_T58 l2 (ji27)).f4), .int .i64 ((rd_T58 l2 (ji27)).f5)], .agg #[.int .i64 ((rd_T58 l2 x33_2).f0), .int .i64 ((rd_T58 l2 x33_2).f1), .float .f64 ((rd_T58 l2 x33_2).f2), .int .i64 ((rd_T58 l2 x33_2).f3), .float .f64 ((rd_T58 l2 x33_2).f4), .int .i64 ((rd_T58 l2 x33_2).f5)]] (by rfl) rfl rfl (by (try simp only [List.map_toArray, List.map_cons, List.map_nil]); first | done | (simp only [hji27]; rfl) | rfl | (simp only [List.length_drop, List.length_take]; rfl)) ?_
               with_reducible refine (scopedv_order.calls ((rd_T58 l2 (ji27)).f0) ((rd_T58 l2 (ji27)).f1) ((rd_T58 l2 (ji27)).f2) ((rd_T58 l2 (ji27)).f3) ((rd_T58 l2 (ji27)).f4) ((rd_T58 l2 (ji27)).f5) ((rd_T58 l2 x33_2).f0) ((rd_T58 l2 x33_2).f1) ((rd_T58 l2 x33_2).f2) ((rd_T58 l2 x33_2).f3) ((rd_T58 l2 x33_2).f4) ((rd_T58 l2 x33_2).f5) t532 _ A30.out).mono ?_
               rintro e w34 ⟨rfl, hb⟩
               refine ⟨_, rfl, ?_⟩
               have n0_ := Aside0.mk (Kd.R_below (by (with_reducible repeat (first | apply Kd.R_alloc | apply Kd.R_drewN | apply Kd.R_drew)); exact HO_8.out) hb)
               have n1_ := Aside0.mk (blk_below (g := gb522) (o := .cells #[.int .i64 a1_0, .int .i64 a1_1, .float .f64 a1_2] 34 (0, 0)) (kp BK522.out) hb)
               have n2_ := Aside0.mk (blk_below (g := gb529) (o := .cells #[.int .i64 ((rd_T58 l2 x33_2).f0), .int .i64 ((rd_T58 l2 x33_2).f1), .float .f64 ((rd_T58 l2 x33_2).f2), .int .i64 ((rd_T58 l2 x33_2).f3), .float .f64 ((rd_T58 l2 x33_2).f4), .int .i64 ((rd_T58 l2 x33_2).f5)] 58 (0, 0)) (kp BK529.out) hb)
               have n3_ := Aside0.mk (below_step (fb2 GE522 GE529) hb)
               clear HO_8
               clear BK522
               clear BK529
               clear HB
               have HO_8 := n0_
               have BK522 := n1_
               have BK529 := n2_
               have HB := n3_
               clear n0_ n1_ n2_ n3_
               (try clear hb)
               (try clear hk)
               refine hK.out _ _ ⟨(blk_cell BK529.out 0).trans rfl, (blk_cell BK529.out 1).trans rfl, (blk_cell BK529.out 2).trans rfl, (blk_cell BK529.out 3).trans rfl, (blk_cell BK529.out 4).trans rfl, (blk_cell BK529.out 5).trans rfl, ((HB.out.cell (World.block_lt_of_cell? w _ hw531_0)).trans hw531_0), ((HB.out.cell (World.block_lt_of_cell? w _ hw531_1)).trans hw531_1), ((HB.out.cell (World.block_lt_of_cell? w _ hw531_2)).trans hw531_2), ((HB.out.cell (World.block_lt_of_cell? w _ hw531_3)).trans hw531_3), ((HB.out.cell (World.block_lt_of_cell? w _ hw531_4)).trans hw531_4), ((HB.out.cell (World.block_lt_of_cell? w _ hw531_5)).trans hw531_5)⟩ (fun hHeld => ?_)
               clear hK K
               refine norm_ (a' := ?_) ?_ ?_; rotate_left; show Act.put _ (some 52) _ = _; simp only [Act.put, qa, qb, qc, i64_w, i32_w]; rfl
               refine pu2 15 (some 53) (bz 18 65535) ?_
               refine pu2 16 (some 54) (bz 18 131071) ?_
               refine pu2 17 (some 55) (bz 18 262143) ?_
               refine done_ (done_of HT_.out (by kernel_rfl)) ?_
               try go_wp2
               go_meet
               case rel => exact ⟨_, (decide (t532 ≥ 0)), fz, H', ⟨by have := HJ7.out; have := HK2.out; exact fl⟩, ⟨by (with_reducible repeat (first | apply Kd.R_alloc | apply Kd.R_drewN | apply Kd.R_drew)); exact HO_8.out⟩, ⟨kp BK522.out⟩, ⟨kp BK529.out⟩, ⟨fb2 GE522 GE529⟩⟩
              ·rw [if_neg c29] at H
               exact absurd H (by simp)
             ·rw [if_neg c28] at H
              exact absurd H (by simp)
            ·rw [if_neg c26] at H
             have c26b0 := decide_eq_false c26
             clear c26
             (first | rw [c26b0] | (simp only [i64_w, i32_w]; rw [c26b0]) | skip)
             have H' := Aside0.mk H
             clear H
             try go_wp2
             have n0_ : Aside0 (Kd.R k56 56 ((((((w21.setCell ⟨gb529, 0, none⟩ (.int .i64 ((rd_T58 l2 x33_2).f0))).setCell ⟨gb529, 1, none⟩ (.int .i64 ((rd_T58 l2 x33_2).f1))).setCell ⟨gb529, 2, none⟩ (.float .f64 ((rd_T58 l2 x33_2).f2))).setCell ⟨gb529, 3, none⟩ (.int .i64 ((rd_T58 l2 x33_2).f3))).setCell ⟨gb529, 4, none⟩ (.float .f64 ((rd_T58 l2 x33_2).f4))).setCell ⟨gb529, 5, none⟩ (.int .i64 ((rd_T58 l2 x33_2).f5))) w.heap.size (fun _ => True) u8 x8_2) := ⟨by (with_reducible repeat (first | apply Kd.R_alloc | apply Kd.R_drewN | apply Kd.R_drew)); exact Kd.R_mono (Kd.R_far (p := ⟨gb529, 5, none⟩) (Kd.R_far (p := ⟨gb529, 4, none⟩) (Kd.R_far (p := ⟨gb529, 3, none⟩) (Kd.R_far (p := ⟨gb529, 2, none⟩) (Kd.R_far (p := ⟨gb529, 1, none⟩) (Kd.R_far (p := ⟨gb529, 0, none⟩) (Kd.R_types HO_8.out BK529.out (by decide)) (fun _ hk => hk.2) (.int .i64 ((rd_T58 l2 x33_2).f0))) (fun _ hk => hk.2) (.int .i64 ((rd_T58 l2 x33_2).f1))) (fun _ hk => hk.2) (.float .f64 ((rd_T58 l2 x33_2).f2))) (fun _ hk => hk.2) (.int .i64 ((rd_T58 l2 x33_2).f3))) (fun _ hk => hk.2) (.float .f64 ((rd_T58 l2 x33_2).f4))) (fun _ hk => hk.2) (.int .i64 ((rd_T58 l2 x33_2).f5))) (fun _ hk => trivial)⟩
             have n1_ : Aside0 (((((((w21.setCell ⟨gb529, 0, none⟩ (.int .i64 ((rd_T58 l2 x33_2).f0))).setCell ⟨gb529, 1, none⟩ (.int .i64 ((rd_T58 l2 x33_2).f1))).setCell ⟨gb529, 2, none⟩ (.float .f64 ((rd_T58 l2 x33_2).f2))).setCell ⟨gb529, 3, none⟩ (.int .i64 ((rd_T58 l2 x33_2).f3))).setCell ⟨gb529, 4, none⟩ (.float .f64 ((rd_T58 l2 x33_2).f4))).setCell ⟨gb529, 5, none⟩ (.int .i64 ((rd_T58 l2 x33_2).f5))).heap[gb522]? = some (.cells #[.int .i64 a1_0, .int .i64 a1_1, .float .f64 a1_2] 34 (0, 0))) := ⟨kp1 NB522_529 BK522.out⟩
             have n2_ : Aside0 (((((((w21.setCell ⟨gb529, 0, none⟩ (.int .i64 ((rd_T58 l2 x33_2).f0))).setCell ⟨gb529, 1, none⟩ (.int .i64 ((rd_T58 l2 x33_2).f1))).setCell ⟨gb529, 2, none⟩ (.float .f64 ((rd_T58 l2 x33_2).f2))).setCell ⟨gb529, 3, none⟩ (.int .i64 ((rd_T58 l2 x33_2).f3))).setCell ⟨gb529, 4, none⟩ (.float .f64 ((rd_T58 l2 x33_2).f4))).setCell ⟨gb529, 5, none⟩ (.int .i64 ((rd_T58 l2 x33_2).f5))).heap[gb529]? = some (.cells #[.int .i64 ((rd_T58 l2 x33_2).f0), .int .i64 ((rd_T58 l2 x33_2).f1), .float .f64 ((rd_T58 l2 x33_2).f2), .int .i64 ((rd_T58 l2 x33_2).f3), .float .f64 ((rd_T58 l2 x33_2).f4), .int .i64 ((rd_T58 l2 x33_2).f5)] 58 (0, 0))) := ⟨kp BK529.out⟩
             have n3_ : Aside0 (Below w.heap.size w ((((((w21.setCell ⟨gb529, 0, none⟩ (.int .i64 ((rd_T58 l2 x33_2).f0))).setCell ⟨gb529, 1, none⟩ (.int .i64 ((rd_T58 l2 x33_2).f1))).setCell ⟨gb529, 2, none⟩ (.float .f64 ((rd_T58 l2 x33_2).f2))).setCell ⟨gb529, 3, none⟩ (.int .i64 ((rd_T58 l2 x33_2).f3))).setCell ⟨gb529, 4, none⟩ (.float .f64 ((rd_T58 l2 x33_2).f4))).setCell ⟨gb529, 5, none⟩ (.int .i64 ((rd_T58 l2 x33_2).f5)))) := ⟨fb2 GE522 GE529⟩
             (try clear HO_8)
             (try clear BK522)
             (try clear BK529)
             (try clear HB)
             generalize ((((((w21.setCell ⟨gb529, 0, none⟩ (.int .i64 ((rd_T58 l2 x33_2).f0))).setCell ⟨gb529, 1, none⟩ (.int .i64 ((rd_T58 l2 x33_2).f1))).setCell ⟨gb529, 2, none⟩ (.float .f64 ((rd_T58 l2 x33_2).f2))).setCell ⟨gb529, 3, none⟩ (.int .i64 ((rd_T58 l2 x33_2).f3))).setCell ⟨gb529, 4, none⟩ (.float .f64 ((rd_T58 l2 x33_2).f4))).setCell ⟨gb529, 5, none⟩ (.int .i64 ((rd_T58 l2 x33_2).f5))) = w35 at n0_ n1_ n2_ n3_ ⊢
             have HO_8 := n0_
             have BK522 := n1_
             have BK529 := n2_
             have HB := n3_
             clear n0_ n1_ n2_ n3_
             have n0_ := Aside0.mk (Kd.R_drew HO_8.out)
             have n1_ := Aside0.mk (blk_drew BK522.out)
             have n2_ := Aside0.mk (blk_drew BK529.out)
             have n3_ := Aside0.mk (below_drew1 HB.out)
             clear HO_8
             clear BK522
             clear BK529
             clear HB
             have HO_8 := n0_
             have BK522 := n1_
             have BK529 := n2_
             have HB := n3_
             clear n0_ n1_ n2_ n3_
             refine start_ (n := 18) (S := fun w' => w'.cell? ⟨gb529, 0, none⟩ = some (.int .i64 ((rd_T58 l2 x33_2).f0)) ∧ w'.cell? ⟨gb529, 1, none⟩ = some (.int .i64 ((rd_T58 l2 x33_2).f1)) ∧ w'.cell? ⟨gb529, 2, none⟩ = some (.float .f64 ((rd_T58 l2 x33_2).f2)) ∧ w'.cell? ⟨gb529, 3, none⟩ = some (.int .i64 ((rd_T58 l2 x33_2).f3)) ∧ w'.cell? ⟨gb529, 4, none⟩ = some (.float .f64 ((rd_T58 l2 x33_2).f4)) ∧ w'.cell? ⟨gb529, 5, none⟩ = some (.int .i64 ((rd_T58 l2 x33_2).f5))) (ds := []) (bz 18 0) (by kernel_rfl) rfl rfl ⟨(blk_cell BK529.out 0).trans rfl, (blk_cell BK529.out 1).trans rfl, (blk_cell BK529.out 2).trans rfl, (blk_cell BK529.out 3).trans rfl, (blk_cell BK529.out 4).trans rfl, (blk_cell BK529.out 5).trans rfl⟩ (fun hHeld => ?_); refine with_tabW scopedv_Tell.tab11 scopedv_Tell.bits11 (fun HT_ HW_ => ?_)
             generalize w35.drew = w36 at HO_8 BK522 BK529 HB hHeld ⊢
             refine pu2 0 (some 38) (bz 18 1) ?_
             refine tk2 1 (some 39) (bz 18 3) ?_
             refine one_ (i := 2) (N := some 40) (bz 18 7) rfl rfl (one_of HT_.out (by kernel_rfl)) (by decide) (fun K hK => ?_)
             refine goes_ Try.func56 (by kernel_rfl) rfl #[.int .i64 a0, .agg #[.int .i64 ((rd_T58 l2 x33_2).f0), .int .i64 ((rd_T58 l2 x33_2).f1), .float .f64 ((rd_T58 l2 x33_2).f2), .int .i64 ((rd_T58 l2 x33_2).f3), .float .f64 ((rd_T58 l2 x33_2).f4), .int .i64 ((rd_T58 l2 x33_2).f5)]] (by rfl) rfl rfl (by (try simp only [List.map_toArray, List.map_cons, List.map_nil]); first | done | rfl | (simp only [List.length_drop, List.length_take]; rfl)) ?_
             with_reducible refine (scopedv_ball.calls k2 a0 ((rd_T58 l2 x33_2).f0) ((rd_T58 l2 x33_2).f1) ((rd_T58 l2 x33_2).f2) ((rd_T58 l2 x33_2).f3) ((rd_T58 l2 x33_2).f4) ((rd_T58 l2 x33_2).f5) true _ A24.out).mono ?_
             rintro e w37 ⟨rfl, hb⟩
             refine ⟨_, rfl, ?_⟩
             have n0_ := Aside0.mk (Kd.R_below (by (with_reducible repeat (first | apply Kd.R_alloc | apply Kd.R_drewN | apply Kd.R_drew)); exact HO_8.out) hb)
             have n1_ := Aside0.mk (blk_below (g := gb522) (o := .cells #[.int .i64 a1_0, .int .i64 a1_1, .float .f64 a1_2] 34 (0, 0)) (kp BK522.out) hb)
             have n2_ := Aside0.mk (blk_below (g := gb529) (o := .cells #[.int .i64 ((rd_T58 l2 x33_2).f0), .int .i64 ((rd_T58 l2 x33_2).f1), .float .f64 ((rd_T58 l2 x33_2).f2), .int .i64 ((rd_T58 l2 x33_2).f3), .float .f64 ((rd_T58 l2 x33_2).f4), .int .i64 ((rd_T58 l2 x33_2).f5)] 58 (0, 0)) (kp BK529.out) hb)
             have n3_ := Aside0.mk (below_step (fb2 GE522 GE529) hb)
             clear HO_8
             clear BK522
             clear BK529
             clear HB
             have HO_8 := n0_
             have BK522 := n1_
             have BK529 := n2_
             have HB := n3_
             clear n0_ n1_ n2_ n3_
             (try clear hb)
             (try clear hk)
             refine hK.out _ _ ⟨(blk_cell BK529.out 0).trans rfl, (blk_cell BK529.out 1).trans rfl, (blk_cell BK529.out 2).trans rfl, (blk_cell BK529.out 3).trans rfl, (blk_cell BK529.out 4).trans rfl, (blk_cell BK529.out 5).trans rfl⟩ (fun hHeld => ?_)
             clear hK K
             refine norm_ (a' := ?_) ?_ ?_; rotate_left; show Act.put _ (some 40) _ = _; simp only [Act.put, qa, qb, qc, i64_w, i32_w]; rfl
             refine pu2 3 (some 41) (bz 18 15) ?_
             refine pu2 4 (some 42) (bz 18 31) ?_
             refine pu2 5 (some 43) (bz 18 63) ?_
             refine pu2 6 (some 44) (bz 18 127) ?_
             refine pu2 7 (some 45) (bz 18 255) ?_
             refine pz2 8 (some 46) (bz 18 511) ?_
             refine pz2 9 (some 47) (bz 18 1023) ?_
             refine pz2 10 (some 48) (bz 18 2047) ?_
             refine pz2 11 (some 49) (bz 18 4095) ?_
             refine pz2 12 (some 50) (bz 18 8191) ?_
             refine pz2 13 (some 51) (bz 18 16383) ?_
             refine pz2 14 (some 52) (bz 18 32767) ?_
             refine pz2 15 (some 53) (bz 18 65535) ?_
             refine pu2 16 (some 54) (bz 18 131071) ?_
             refine pu2 17 (some 55) (bz 18 262143) ?_
             refine done_ (done_of HT_.out (by kernel_rfl)) ?_
             try go_wp2
             go_meet
             case rel => exact ⟨_, (false), fz, H', ⟨by have := HJ7.out; have := HK2.out; exact fl⟩, ⟨by (with_reducible repeat (first | apply Kd.R_alloc | apply Kd.R_drewN | apply Kd.R_drew)); exact HO_8.out⟩, ⟨kp BK522.out⟩, ⟨kp BK529.out⟩, ⟨fb2 GE522 GE529⟩⟩
           ·obtain rfl := bf_ c25
            have H1 : (scopedv_Tell.j2 k2 a0 l2 x8_2 l2 (l2.length : Int) x33_2 true ((rd_T58 l2 x33_2).f0) ((rd_T58 l2 x33_2).f1) ((rd_T58 l2 x33_2).f2) ((rd_T58 l2 x33_2).f3) ((rd_T58 l2 x33_2).f4) ((rd_T58 l2 x33_2).f5)) = some (r1, r2) := by rw [if_neg (show ¬ (false = true) by decide)] at H; exact H
            clear H
            have H := H1
            clear H1
            have H' := Aside0.mk H
            clear H
            try go_wp2
            have n0_ : Aside0 (Kd.R k56 56 ((((((w21.setCell ⟨gb529, 0, none⟩ (.int .i64 ((rd_T58 l2 x33_2).f0))).setCell ⟨gb529, 1, none⟩ (.int .i64 ((rd_T58 l2 x33_2).f1))).setCell ⟨gb529, 2, none⟩ (.float .f64 ((rd_T58 l2 x33_2).f2))).setCell ⟨gb529, 3, none⟩ (.int .i64 ((rd_T58 l2 x33_2).f3))).setCell ⟨gb529, 4, none⟩ (.float .f64 ((rd_T58 l2 x33_2).f4))).setCell ⟨gb529, 5, none⟩ (.int .i64 ((rd_T58 l2 x33_2).f5))) w.heap.size (fun _ => True) u8 x8_2) := ⟨by (with_reducible repeat (first | apply Kd.R_alloc | apply Kd.R_drewN | apply Kd.R_drew)); exact Kd.R_mono (Kd.R_far (p := ⟨gb529, 5, none⟩) (Kd.R_far (p := ⟨gb529, 4, none⟩) (Kd.R_far (p := ⟨gb529, 3, none⟩) (Kd.R_far (p := ⟨gb529, 2, none⟩) (Kd.R_far (p := ⟨gb529, 1, none⟩) (Kd.R_far (p := ⟨gb529, 0, none⟩) (Kd.R_types HO_8.out BK529.out (by decide)) (fun _ hk => hk.2) (.int .i64 ((rd_T58 l2 x33_2).f0))) (fun _ hk => hk.2) (.int .i64 ((rd_T58 l2 x33_2).f1))) (fun _ hk => hk.2) (.float .f64 ((rd_T58 l2 x33_2).f2))) (fun _ hk => hk.2) (.int .i64 ((rd_T58 l2 x33_2).f3))) (fun _ hk => hk.2) (.float .f64 ((rd_T58 l2 x33_2).f4))) (fun _ hk => hk.2) (.int .i64 ((rd_T58 l2 x33_2).f5))) (fun _ hk => trivial)⟩
            have n1_ : Aside0 (((((((w21.setCell ⟨gb529, 0, none⟩ (.int .i64 ((rd_T58 l2 x33_2).f0))).setCell ⟨gb529, 1, none⟩ (.int .i64 ((rd_T58 l2 x33_2).f1))).setCell ⟨gb529, 2, none⟩ (.float .f64 ((rd_T58 l2 x33_2).f2))).setCell ⟨gb529, 3, none⟩ (.int .i64 ((rd_T58 l2 x33_2).f3))).setCell ⟨gb529, 4, none⟩ (.float .f64 ((rd_T58 l2 x33_2).f4))).setCell ⟨gb529, 5, none⟩ (.int .i64 ((rd_T58 l2 x33_2).f5))).heap[gb522]? = some (.cells #[.int .i64 a1_0, .int .i64 a1_1, .float .f64 a1_2] 34 (0, 0))) := ⟨kp1 NB522_529 BK522.out⟩
            have n2_ : Aside0 (((((((w21.setCell ⟨gb529, 0, none⟩ (.int .i64 ((rd_T58 l2 x33_2).f0))).setCell ⟨gb529, 1, none⟩ (.int .i64 ((rd_T58 l2 x33_2).f1))).setCell ⟨gb529, 2, none⟩ (.float .f64 ((rd_T58 l2 x33_2).f2))).setCell ⟨gb529, 3, none⟩ (.int .i64 ((rd_T58 l2 x33_2).f3))).setCell ⟨gb529, 4, none⟩ (.float .f64 ((rd_T58 l2 x33_2).f4))).setCell ⟨gb529, 5, none⟩ (.int .i64 ((rd_T58 l2 x33_2).f5))).heap[gb529]? = some (.cells #[.int .i64 ((rd_T58 l2 x33_2).f0), .int .i64 ((rd_T58 l2 x33_2).f1), .float .f64 ((rd_T58 l2 x33_2).f2), .int .i64 ((rd_T58 l2 x33_2).f3), .float .f64 ((rd_T58 l2 x33_2).f4), .int .i64 ((rd_T58 l2 x33_2).f5)] 58 (0, 0))) := ⟨kp BK529.out⟩
            have n3_ : Aside0 (Below w.heap.size w ((((((w21.setCell ⟨gb529, 0, none⟩ (.int .i64 ((rd_T58 l2 x33_2).f0))).setCell ⟨gb529, 1, none⟩ (.int .i64 ((rd_T58 l2 x33_2).f1))).setCell ⟨gb529, 2, none⟩ (.float .f64 ((rd_T58 l2 x33_2).f2))).setCell ⟨gb529, 3, none⟩ (.int .i64 ((rd_T58 l2 x33_2).f3))).setCell ⟨gb529, 4, none⟩ (.float .f64 ((rd_T58 l2 x33_2).f4))).setCell ⟨gb529, 5, none⟩ (.int .i64 ((rd_T58 l2 x33_2).f5)))) := ⟨fb2 GE522 GE529⟩
            (try clear HO_8)
            (try clear BK522)
            (try clear BK529)
            (try clear HB)
            generalize ((((((w21.setCell ⟨gb529, 0, none⟩ (.int .i64 ((rd_T58 l2 x33_2).f0))).setCell ⟨gb529, 1, none⟩ (.int .i64 ((rd_T58 l2 x33_2).f1))).setCell ⟨gb529, 2, none⟩ (.float .f64 ((rd_T58 l2 x33_2).f2))).setCell ⟨gb529, 3, none⟩ (.int .i64 ((rd_T58 l2 x33_2).f3))).setCell ⟨gb529, 4, none⟩ (.float .f64 ((rd_T58 l2 x33_2).f4))).setCell ⟨gb529, 5, none⟩ (.int .i64 ((rd_T58 l2 x33_2).f5))) = w38 at n0_ n1_ n2_ n3_ ⊢
            have HO_8 := n0_
            have BK522 := n1_
            have BK529 := n2_
            have HB := n3_
            clear n0_ n1_ n2_ n3_
            have n0_ := Aside0.mk (Kd.R_drew HO_8.out)
            have n1_ := Aside0.mk (blk_drew BK522.out)
            have n2_ := Aside0.mk (blk_drew BK529.out)
            have n3_ := Aside0.mk (below_drew1 HB.out)
            clear HO_8
            clear BK522
            clear BK529
            clear HB
            have HO_8 := n0_
            have BK522 := n1_
            have BK529 := n2_
            have HB := n3_
            clear n0_ n1_ n2_ n3_
            refine start_ (n := 18) (S := fun w' => w'.cell? ⟨gb529, 0, none⟩ = some (.int .i64 ((rd_T58 l2 x33_2).f0)) ∧ w'.cell? ⟨gb529, 1, none⟩ = some (.int .i64 ((rd_T58 l2 x33_2).f1)) ∧ w'.cell? ⟨gb529, 2, none⟩ = some (.float .f64 ((rd_T58 l2 x33_2).f2)) ∧ w'.cell? ⟨gb529, 3, none⟩ = some (.int .i64 ((rd_T58 l2 x33_2).f3)) ∧ w'.cell? ⟨gb529, 4, none⟩ = some (.float .f64 ((rd_T58 l2 x33_2).f4)) ∧ w'.cell? ⟨gb529, 5, none⟩ = some (.int .i64 ((rd_T58 l2 x33_2).f5))) (ds := []) (bz 18 0) (by kernel_rfl) rfl rfl ⟨(blk_cell BK529.out 0).trans rfl, (blk_cell BK529.out 1).trans rfl, (blk_cell BK529.out 2).trans rfl, (blk_cell BK529.out 3).trans rfl, (blk_cell BK529.out 4).trans rfl, (blk_cell BK529.out 5).trans rfl⟩ (fun hHeld => ?_); refine with_tabW scopedv_Tell.tab11 scopedv_Tell.bits11 (fun HT_ HW_ => ?_)
            generalize w38.drew = w39 at HO_8 BK522 BK529 HB hHeld ⊢
            refine pu2 0 (some 38) (bz 18 1) ?_
            refine tk2 1 (some 39) (bz 18 3) ?_
            refine one_ (i := 2) (N := some 40) (bz 18 7) rfl rfl (one_of HT_.out (by kernel_rfl)) (by decide) (fun K hK => ?_)
            refine goes_ Try.func56 (by kernel_rfl) rfl #[.int .i64 a0, .agg #[.int .i64 ((rd_T58 l2 x33_2).f0), .int .i64 ((rd_T58 l2 x33_2).f1), .float .f64 ((rd_T58 l2 x33_2).f2), .int .i64 ((rd_T58 l2 x33_2).f3), .float .f64 ((rd_T58 l2 x33_2).f4), .int .i64 ((rd_T58 l2 x33_2).f5)]] (by rfl) rfl rfl (by (try simp only [List.map_toArray, List.map_cons, List.map_nil]); first | done | rfl | (simp only [List.length_drop, List.length_take]; rfl)) ?_
            with_reducible refine (scopedv_ball.calls k2 a0 ((rd_T58 l2 x33_2).f0) ((rd_T58 l2 x33_2).f1) ((rd_T58 l2 x33_2).f2) ((rd_T58 l2 x33_2).f3) ((rd_T58 l2 x33_2).f4) ((rd_T58 l2 x33_2).f5) false _ A24.out).mono ?_
            rintro e w40 ⟨rfl, hb⟩
            refine ⟨_, rfl, ?_⟩
            have n0_ := Aside0.mk (Kd.R_below (by (with_reducible repeat (first | apply Kd.R_alloc | apply Kd.R_drewN | apply Kd.R_drew)); exact HO_8.out) hb)
            have n1_ := Aside0.mk (blk_below (g := gb522) (o := .cells #[.int .i64 a1_0, .int .i64 a1_1, .float .f64 a1_2] 34 (0, 0)) (kp BK522.out) hb)
            have n2_ := Aside0.mk (blk_below (g := gb529) (o := .cells #[.int .i64 ((rd_T58 l2 x33_2).f0), .int .i64 ((rd_T58 l2 x33_2).f1), .float .f64 ((rd_T58 l2 x33_2).f2), .int .i64 ((rd_T58 l2 x33_2).f3), .float .f64 ((rd_T58 l2 x33_2).f4), .int .i64 ((rd_T58 l2 x33_2).f5)] 58 (0, 0)) (kp BK529.out) hb)
            have n3_ := Aside0.mk (below_step (fb2 GE522 GE529) hb)
            clear HO_8
            clear BK522
            clear BK529
            clear HB
            have HO_8 := n0_
            have BK522 := n1_
            have BK529 := n2_
            have HB := n3_
            clear n0_ n1_ n2_ n3_
            (try clear hb)
            (try clear hk)
            refine hK.out _ _ ⟨(blk_cell BK529.out 0).trans rfl, (blk_cell BK529.out 1).trans rfl, (blk_cell BK529.out 2).trans rfl, (blk_cell BK529.out 3).trans rfl, (blk_cell BK529.out 4).trans rfl, (blk_cell BK529.out 5).trans rfl⟩ (fun hHeld => ?_)
            clear hK K
            refine norm_ (a' := ?_) ?_ ?_; rotate_left; show Act.put _ (some 40) _ = _; simp only [Act.put, qa, qb, qc, i64_w, i32_w]; rfl
            refine pu2 3 (some 41) (bz 18 15) ?_
            refine pu2 4 (some 42) (bz 18 31) ?_
            refine pz2 5 (some 43) (bz 18 63) ?_
            refine pz2 6 (some 44) (bz 18 127) ?_
            refine pz2 7 (some 45) (bz 18 255) ?_
            refine pz2 8 (some 46) (bz 18 511) ?_
            refine pz2 9 (some 47) (bz 18 1023) ?_
            refine pz2 10 (some 48) (bz 18 2047) ?_
            refine pz2 11 (some 49) (bz 18 4095) ?_
            refine pz2 12 (some 50) (bz 18 8191) ?_
            refine pz2 13 (some 51) (bz 18 16383) ?_
            refine pz2 14 (some 52) (bz 18 32767) ?_
            refine pz2 15 (some 53) (bz 18 65535) ?_
            refine pz2 16 (some 54) (bz 18 131071) ?_
            refine pu2 17 (some 55) (bz 18 262143) ?_
            refine done_ (done_of HT_.out (by kernel_rfl)) ?_
            try go_wp2
            go_meet
            case rel => exact ⟨_, (true), fz, H', ⟨by have := HJ7.out; have := HK2.out; exact fl⟩, ⟨by (with_reducible repeat (first | apply Kd.R_alloc | apply Kd.R_drewN | apply Kd.R_drew)); exact HO_8.out⟩, ⟨kp BK522.out⟩, ⟨kp BK529.out⟩, ⟨fb2 GE522 GE529⟩⟩
          case rest =>
           clear HC20
           (try clear c2); (try clear c5)
           obtain ⟨kq, x55_19, rfl, HA, HJ19, HO_8, BK522, BK529, HB⟩ := hcut
           cases kq with
           | zero => exact absurd HA.out (by simp [scopedv_Tell.j2])
           | succ kj19 =>
            have H := HA.out
            clear HA
            simp only [scopedv_Tell.j2] at H
            by_cases c41 : x55_19 = true
            ·subst c41
             have H1 : (some (([] : List (S56)), 1)) = some (r1, r2) := by rw [if_pos rfl] at H; exact H
             clear H
             have H := H1
             clear H1
             simp only [Option.some.injEq, Prod.mk.injEq] at H
             obtain ⟨rfl, rfl⟩ := H
             go_wp2
             go_ret2
             exact ⟨_, by first | rfl | (simp [errW_none, errW_some] <;> rfl) | (simp [*, errW_none, errW_some] <;> rfl), by first | exact Kd.R_nil _ _ _ _ _ | exact Kd.N_nil _ _ _ _ _ | exact Kd.V_nil _ _ _ _ _ | exact Kd.Q_nil _ _ _ _ _ | exact Kd.S_nil _ _ _ _ _, fb2 GE522 GE529⟩
            ·obtain rfl := bf_ c41
             have H1 : (if ((rd_T58 l2 x33_2).f1) = 2 then (if x8_2.length < 3518437208883 then (scopedv_Tell.l0 kj19 a0 l2 (x8_2 ++ [(⟨((rd_T58 l2 x33_2).f0), 2, ((rd_T58 l2 x33_2).f2), ((rd_T58 l2 x33_2).f4), ((rd_T58 l2 x33_2).f5)⟩ : S56)]) l2 (l2.length : Int) (wrap64 (x33_2 + 1))) else (none)) else (scopedv_Tell.l0 kj19 a0 l2 x8_2 l2 (l2.length : Int) (wrap64 (x33_2 + 1)))) = some (r1, r2) := by rw [if_neg (show ¬ (false = true) by decide)] at H; exact H
             clear H
             have H := H1
             clear H1
             by_cases c42 : ((rd_T58 l2 x33_2).f1) = 2
             ·rw [if_pos c42] at H
              have c42b0 := be_ c42
              have c42b1 := bg_ c42
              clear c42
              by_cases c43 : x8_2.length < 3518437208883
              ·rw [if_pos c43] at H
               have LMc43 := Aside0.mk c43
               clear c43
               obtain ⟨y533, hy533⟩ : ∃ y_ : List (S56), y_ = (x8_2 ++ [(⟨((rd_T58 l2 x33_2).f0), 2, ((rd_T58 l2 x33_2).f2), ((rd_T58 l2 x33_2).f4), ((rd_T58 l2 x33_2).f5)⟩ : S56)]) := ⟨_, rfl⟩
               replace H : (scopedv_Tell.l0 kj19 a0 l2 y533 l2 (l2.length : Int) (wrap64 (x33_2 + 1))) = some (r1, r2) := by first | (rw [hy533]; with_reducible exact H) | (have H2_ := (Option.bind_some _ _).symm.trans H; rw [hy533]; with_reducible exact H2_) | (have H2_ := (Option.bind_some _ _).symm.trans H; with_reducible exact H2_) | with_reducible exact H | (rw [hy533]; exact H) | exact H
               have Ny533 := Aside0.mk hy533
               clear hy533
               have H' := Aside0.mk H
               clear H
               have hnb44 := NB529_522.out
               have hnc44 := NB522_529.out
               obtain ⟨hcz45_0, hcz45_1, hcz45_2, hcz45_3, hcz45_4, hcz45_5, hfz45_0, hfz45_1, hfz45_2, hfz45_3, hfz45_4, hfz45_5⟩ := cz6 BK529.out
               go_wp2_with (first | ((with_reducible refine gate_builtin (b := .append) (xs := #[.tmp 59, .tmp 69]) rfl ?_); at_builtin; refine Kd.R_append k56 (w0 := w) w.heap.size rfl (.tmp 59) (.tmp 69) 35 56 (.agg #[(.int .i64 0), (.int .i64 0), (.float .f64 0), (.float .f64 0), (.int .i64 0)]) 40 rfl Try.underlying35 info56 rfl (by decide) (by omega) u8 x8_2 (⟨((rd_T58 l2 x33_2).f0), 2, ((rd_T58 l2 x33_2).f2), ((rd_T58 l2 x33_2).f4), ((rd_T58 l2 x33_2).f5)⟩ : S56) [.int .i64 ((rd_T58 l2 x33_2).f0), .int .i64 2, .float .f64 ((rd_T58 l2 x33_2).f2), .float .f64 ((rd_T58 l2 x33_2).f4), .int .i64 ((rd_T58 l2 x33_2).f5)] (fun _ => True) (fun _ => False) rfl rfl ?aP (fun _ hk => hk.elim) ?aF ?aO ?aB ?aS ?aL ?_; (case aP => exact k56_mkM _ _ _ (⟨((rd_T58 l2 x33_2).f0), 2, ((rd_T58 l2 x33_2).f2), ((rd_T58 l2 x33_2).f4), ((rd_T58 l2 x33_2).f5)⟩ : S56)); (case aB => exact (fb2 GE522 GE529)); (case aF => exact (fun _ _ => trivial)); (case aO => exact (by (with_reducible repeat (first | apply Kd.R_alloc | apply Kd.R_drewN | apply Kd.R_drew)); exact HO_8.out)); (case aS => exact (below_size (fb2 GE522 GE529))); (case aL => have := LMc43.out; omega); intro v534 w46 ho hb hg hat; rw [← Ny533.out] at ho; have n0_ := Aside0.mk (blk_grown (g := gb522) (o := .cells #[.int .i64 a1_0, .int .i64 a1_1, .float .f64 a1_2] 34 (0, 0)) (kp BK522.out) hg (Kd.R_ne HO_8.out BK522.out (by decide))); have n1_ := Aside0.mk (blk_grown (g := gb529) (o := .cells #[.int .i64 ((rd_T58 l2 x33_2).f0), .int .i64 ((rd_T58 l2 x33_2).f1), .float .f64 ((rd_T58 l2 x33_2).f2), .int .i64 ((rd_T58 l2 x33_2).f3), .float .f64 ((rd_T58 l2 x33_2).f4), .int .i64 ((rd_T58 l2 x33_2).f5)] 58 (0, 0)) (kp BK529.out) hg (Kd.R_ne HO_8.out BK529.out (by decide))); have n2_ := Aside0.mk (hb); have n3_ := Aside0.mk (ho); clear BK522; clear BK529; clear HB; clear HO_8; have BK522 := n0_; have BK529 := n1_; have HB := n2_; have HO535 := n3_; clear n0_ n1_ n2_ n3_; clear ho hb hg hat))
               go_roundg kj19
               case measure => have := HJ7.out; have := HK2.out; have := HJ19.out; omega
               case rel => exact ⟨(y533), (wrap64 (x33_2 + 1)), fz, H', ⟨by have := HJ7.out; have := HK2.out; have := HJ19.out; omega⟩, ⟨by (with_reducible repeat (first | apply Kd.R_alloc | apply Kd.R_drewN | apply Kd.R_drew)); exact HO535.out⟩, ⟨kp BK522.out⟩, ⟨fb2 GE522 GE529⟩⟩
              ·rw [if_neg c43] at H
               exact absurd H (by simp)
             ·rw [if_neg c42] at H
              have c42b0 := bh_ c42
              have c42b1 := bi_ c42
              have H' := Aside0.mk H
              clear H
              have hnb47 := NB529_522.out
              have hnc47 := NB522_529.out
              obtain ⟨hcz48_0, hcz48_1, hcz48_2, hcz48_3, hcz48_4, hcz48_5, hfz48_0, hfz48_1, hfz48_2, hfz48_3, hfz48_4, hfz48_5⟩ := cz6 BK529.out
              go_wp2
              go_roundg kj19
              case measure => have := HJ7.out; have := HK2.out; have := HJ19.out; omega
              case rel => exact ⟨(x8_2), (wrap64 (x33_2 + 1)), fz, H', ⟨by have := HJ7.out; have := HK2.out; have := HJ19.out; omega⟩, ⟨by (with_reducible repeat (first | apply Kd.R_alloc | apply Kd.R_drewN | apply Kd.R_drew)); exact HO_8.out⟩, ⟨kp BK522.out⟩, ⟨fb2 GE522 GE529⟩⟩
         ·rw [if_neg c19] at H
          exact absurd H (by simp)
        ·rw [if_neg c18] at H
         exact absurd H (by simp)
       ·rw [if_neg c17] at H
        have c17b0 := decide_eq_false c17
        clear c17
        replace H := bs_ H; obtain ⟨t536, A49, H⟩ := H
        simp only [Option.some.injEq, Prod.mk.injEq] at H
        obtain ⟨rfl, rfl⟩ := H
        obtain ⟨Ao50, co50, eo50⟩ := Kd.R_slice HO_8.out
        subst eo50
        go_wp2_with (first | ((with_reducible refine gate_callee (f := 57) rfl ?_); refine gl_ (some 73) Try.func57 #[.slice Ao50 x8_2.length co50, .func (.func 58) #[] #[]] ?_; (with_reducible refine (sort_News.calls (fun k_ => some k_ = (.slice Ao50 x8_2.length co50 : Value).ownBlock) (.slice Ao50 x8_2.length co50) x8_2 58 t536 w _ ?side1 ?side2 A49.out).mono ?_); (case side1 => repeat (first | (with_reducible first | exact HB.out | apply below_alloc | apply pw_below_drewN | apply below_drew1 | refine below_set ?_ GE522.out) | exact HB.out)); (case side2 => exact Kd.R_tight rfl HO_8.out); rintro e w51 ⟨rfl, hy0, hb, hkp⟩; refine ⟨_, rfl, ?_⟩; have n0_ := Aside0.mk (Kd.R_reok rfl hy0 (fun k_ e_ => HO_8.out.1 k_ e_)); have n1_ := Aside0.mk (blk_kept (kp BK522.out) hkp (fun hs_ => (fun e_ => (Kd.R_ne HO_8.out BK522.out (by decide)) e_) hs_)); have n2_ := Aside0.mk (hb); clear HO_8; clear BK522; clear HB; have HO_8 := n0_; have BK522 := n1_; have HB := n2_; clear n0_ n1_ n2_; (try clear hb); (try clear hkp); (try clear hy0)))
        go_ret2
        exact ⟨_, by first | rfl | (simp [errW_none, errW_some] <;> rfl) | (simp [*, errW_none, errW_some] <;> rfl), by (with_reducible repeat (first | apply Kd.R_alloc | apply Kd.R_drewN | apply Kd.R_drew)); exact HO_8.out, fb1 GE522⟩
  ·obtain rfl := bf_ c7
   have H1 : (some (([] : List (S56)), 1)) = some (r1, r2) := by rw [if_neg (show ¬ (false = true) by decide)] at H; exact H
   clear H
   have H := H1
   clear H1
   simp only [Option.some.injEq, Prod.mk.injEq] at H
   obtain ⟨rfl, rfl⟩ := H
   go_enter Try.func20, Try.ntmps20
   go_wp2_with (first | ((with_reducible refine gate_dst (N := 4) rfl ?_); refine bx_ (N := 4) #[.int .i64 a1_0, .int .i64 a1_1, .float .f64 a1_2] 34 ⟨fb⟩ ?_; clear HB; intro gb522 w52 HB BK522 GE522; have GW522 := GE522) | ((with_reducible refine gate_callee (f := 54) rfl ?_); refine gl_ (some 12) Try.func54 #[.int .i64 a0] ?_; (with_reducible refine (scopedv_number.calls k a0 true _ A4.out).mono ?_); rintro e w' ⟨rfl, ⟨nd, rfl⟩⟩; refine ⟨_, rfl, ?_⟩; obtain ⟨hcz53_0, hcz53_1, hcz53_2, hfz53_0, hfz53_1, hfz53_2⟩ := cz3 BK522.out) | ((with_reducible refine gate_callee (f := 55) rfl ?_); refine gl_ (some 16) Try.func55 #[.int .i64 a0, .agg #[.int .i64 a1_0, .int .i64 a1_1, .float .f64 a1_2]] ?_; (with_reducible refine (scopedv_homed.calls k a0 a1_0 a1_1 a1_2 false _ A6.out).mono ?_); rintro e w54 ⟨rfl, hb⟩; refine ⟨_, rfl, ?_⟩; have n0_ := Aside0.mk (blk_below (g := gb522) (o := .cells #[.int .i64 a1_0, .int .i64 a1_1, .float .f64 a1_2] 34 (0, 0)) (kp BK522.out) hb); have n1_ := Aside0.mk (below_step (fb1 GE522) hb); clear BK522; clear HB; have BK522 := n0_; have HB := n1_; clear n0_ n1_; (try clear hb)))
   go_ret2
   exact ⟨_, by first | rfl | (simp [errW_none, errW_some] <;> rfl) | (simp [*, errW_none, errW_some] <;> rfl), by first | exact Kd.R_nil _ _ _ _ _ | exact Kd.N_nil _ _ _ _ _ | exact Kd.V_nil _ _ _ _ _ | exact Kd.Q_nil _ _ _ _ _ | exact Kd.S_nil _ _ _ _ _, fb1 GE522⟩
 ·obtain rfl := bf_ c5
  have H1 : (some (([] : List (S56)), 20)) = some (r1, r2) := by rw [if_neg (show ¬ (false = true) by decide)] at H; exact H
  clear H
  have H := H1
  clear H1
  simp only [Option.some.injEq, Prod.mk.injEq] at H
  obtain ⟨rfl, rfl⟩ := H
  go_enter Try.func20, Try.ntmps20
  go_wp2_with (first | ((with_reducible refine gate_dst (N := 4) rfl ?_); refine bx_ (N := 4) #[.int .i64 a1_0, .int .i64 a1_1, .float .f64 a1_2] 34 ⟨fb⟩ ?_; clear HB; intro gb522 w55 HB BK522 GE522; have GW522 := GE522) | ((with_reducible refine gate_callee (f := 54) rfl ?_); refine gl_ (some 12) Try.func54 #[.int .i64 a0] ?_; (with_reducible refine (scopedv_number.calls k a0 false _ A4.out).mono ?_); rintro e w' ⟨rfl, ⟨nd, rfl⟩⟩; refine ⟨_, rfl, ?_⟩))
  go_ret2
  exact ⟨_, by first | rfl | (simp [errW_none, errW_some] <;> rfl) | (simp [*, errW_none, errW_some] <;> rfl), by first | exact Kd.R_nil _ _ _ _ _ | exact Kd.N_nil _ _ _ _ _ | exact Kd.V_nil _ _ _ _ _ | exact Kd.Q_nil _ _ _ _ _ | exact Kd.S_nil _ _ _ _ _, fb1 GE522⟩

end Go.Proofs.Ytjkhckbfkinheaa.GAa
