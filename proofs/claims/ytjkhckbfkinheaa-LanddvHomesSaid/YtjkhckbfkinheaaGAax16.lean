-- written by a program of this session (wip/pp): see NOTES.md
import Derived.Test.YtjkhckbfkinheaaGAax0
import Derived.Test.YtjkhckbfkinheaaGAax2
import Derived.Test.YtjkhckbfkinheaaGAax10
import Derived.Test.YtjkhckbfkinheaaGAax15
namespace Go.Proofs.Ytjkhckbfkinheaa.GAa
open Go.RowKit Go.Proofs.YtjkhckbfkinheaaW.PrintWords Go.Proofs.YtjkhckbfkinheaaW.PrintLast Go.Proofs.YtjkhckbfkinheaaW.PrintMore
attribute [local go_sem] max2_int min2_int max_two min_two max_three min_three max_four min_four   -- for this text's walks alone
attribute [local go_sem high] binOp_flss binOp_fgtr binOp_fleq binOp_fgeq binOp_feql binOp_fneq run_fadd run_fsub run_fmul run_fquo unary_fneg run_ftoint run_fofint run_feqIn ext_bits ext_frombits ext_trunc
set_option linter.unusedVariables false
set_option linter.unusedSimpArgs false

/-! ### landdv_asked: function 64 -/
def landdv_asked.f (k : Nat) (a0 : Int) (l1 : List (S58)) : Option (Int) := (ident_CheckId.f k a0).bind fun t203 => (if t203 = 0 then ((landdv_may.f k a0 l1).bind fun t204 => (if t204 = true then (some 0) else (some 1))) else (some t203))
set_option maxHeartbeats 8000000 in
set_option maxRecDepth 100000 in
theorem landdv_asked.calls (k : Nat) (a0 : Int) (A1 : Option Addr) (c1 : Nat) (l1 : List (S58)) (r : Int) (w : World) (hr1 : Kd.C k58 w A1 l1.length l1) (hc1 : l1.length ≤ c1) (h : landdv_asked.f k a0 l1 = some r) :
  Calls Try.prog 64 #[.int .i64 a0, .slice A1 l1.length c1] w fun e w' => e = .returned (.int .i64 r) ∧ Below w.heap.size w w' := by
 have HR1 := Aside0.mk hr1
 have HC1 := Aside0.mk hc1
 clear hr1 hc1
 have HB := Aside0.mk (Below.refl w.heap.size w)
 have H : ((ident_CheckId.f k a0).bind fun t203 => (if t203 = 0 then ((landdv_may.f k a0 l1).bind fun t204 => (if t204 = true then (some 0) else (some 1))) else (some t203))) = some r := h
 clear h
 replace H := bs_ H; obtain ⟨t203, A3, H⟩ := H
 by_cases c4 : t203 = 0
 ·rw [if_pos c4] at H
  have c4b0 := be_ c4
  have c4b1 := bg_ c4
  clear c4
  replace H := bs_ H; obtain ⟨t204, A5, H⟩ := H
  by_cases c6 : t204 = true
  ·subst c6
   rw [if_pos rfl] at H
   obtain rfl := oj_ H
   go_enter Try.func64, Try.ntmps64
   go_wp2_with (first | ((with_reducible refine gate_callee (f := 49) rfl ?_); refine gl_ (some 7) Try.func49 #[.int .i64 a0] ?_; (with_reducible refine (ident_CheckId.calls k a0 t203 _ A3.out).mono ?_); rintro e w' ⟨rfl, ⟨nd, rfl⟩⟩; refine ⟨_, rfl, ?_⟩) | ((with_reducible refine gate_callee (f := 89) rfl ?_); refine gl_ (some 13) Try.func89 #[.int .i64 a0, .slice A1 l1.length c1] ?_; (with_reducible refine (landdv_may.calls k a0 _ _ l1 true _ ?side1 ?side2 A5.out).mono ?_); (case side1 => repeat (first | exact HR1.out | (with_reducible refine Kd.C_alloc ?_ _) | (with_reducible refine Kd.C_drewN ?_ _) | (with_reducible refine Kd.C_drew ?_))); (case side2 => exact HC1.out); rintro e w7 ⟨rfl, hb⟩; refine ⟨_, rfl, ?_⟩; replace HB := Aside0.mk (below_step fb hb); (try clear hb)))
   go_ret
   exact ⟨fe, fb⟩
  ·obtain rfl := bf_ c6
   rw [if_neg nf_] at H
   obtain rfl := oj_ H
   go_enter Try.func64, Try.ntmps64
   go_wp2_with (first | ((with_reducible refine gate_callee (f := 49) rfl ?_); refine gl_ (some 7) Try.func49 #[.int .i64 a0] ?_; (with_reducible refine (ident_CheckId.calls k a0 t203 _ A3.out).mono ?_); rintro e w' ⟨rfl, ⟨nd, rfl⟩⟩; refine ⟨_, rfl, ?_⟩) | ((with_reducible refine gate_callee (f := 89) rfl ?_); refine gl_ (some 13) Try.func89 #[.int .i64 a0, .slice A1 l1.length c1] ?_; (with_reducible refine (landdv_may.calls k a0 _ _ l1 false _ ?side1 ?side2 A5.out).mono ?_); (case side1 => repeat (first | exact HR1.out | (with_reducible refine Kd.C_alloc ?_ _) | (with_reducible refine Kd.C_drewN ?_ _) | (with_reducible refine Kd.C_drew ?_))); (case side2 => exact HC1.out); rintro e w8 ⟨rfl, hb⟩; refine ⟨_, rfl, ?_⟩; replace HB := Aside0.mk (below_step fb hb); (try clear hb)))
   go_ret
   exact ⟨fe, fb⟩
 ·rw [if_neg c4] at H
  have c4b0 := bh_ c4
  have c4b1 := bi_ c4
  obtain rfl := oj_ H
  go_enter Try.func64, Try.ntmps64
  go_wp2_with (first | ((with_reducible refine gate_callee (f := 49) rfl ?_); refine gl_ (some 7) Try.func49 #[.int .i64 a0] ?_; (with_reducible refine (ident_CheckId.calls k a0 t203 _ A3.out).mono ?_); rintro e w' ⟨rfl, ⟨nd, rfl⟩⟩; refine ⟨_, rfl, ?_⟩))
  go_ret
  exact ⟨fe, fb⟩

/-! ### landdv_Home: function 26 -/
def landdv_Home.l0 : Nat → List (S58) → Int → Int → Int → Int → Nat → Option (Int × Int × Nat × Int)
 | 0, _, _, _, _, _, _ => none
 | k + 1, x26, x27, x28, x209000, x209001, x209002 => if x28 < x27 then (if 0 ≤ x28 then (if x28 < (x26.length : Int) then (if (fLt ((rd_T58 x26 x28).f2) x209002) = true then (landdv_Home.l0 k x26 x27 (wrap64 (x28 + 1)) x209000 ((rd_T58 x26 x28).f0) ((rd_T58 x26 x28).f2)) else (landdv_Home.l0 k x26 x27 (wrap64 (x28 + 1)) x209000 x209001 x209002)) else (none)) else (none)) else (some (x209000, x209001, x209002, 0))
def landdv_Home.f (k : Nat) (a0 : Int) (a1 : Bool) (l2 : List (S58)) : Option (Int × Int × Nat × Int) := (landdv_asked.f k a0 l2).bind fun t206 => (if t206 = 0 then (if a1 = true then (some (a0, a0, 0, 0)) else ((math_Inf.f k 1).bind fun t207 => (landdv_Home.l0 k l2 (l2.length : Int) 0 a0 0 t207))) else (some (0, 0, 0, t206)))
def landdv_Home.T11 : Bool × List (List Nat × List Nat) := (true, [([], []), ([0], [0]), ([], []), ([2], [2]), ([0, 1], []), ([4, 1, 0, 1], [1, 4]), ([0, 1, 2, 3, 4, 5], []), ([6, 3, 5, 0, 1, 2, 3, 4, 5], [3, 6])])
def landdv_Home.B11 : List Nat := [0, 1, 0, 4, 3, 19, 63, 127]
theorem landdv_Home.tab11 : rtab .any (opsOf Try.f26 11) = landdv_Home.T11 := by kernel_rfl
theorem landdv_Home.bits11 : waitsOk landdv_Home.T11.2 landdv_Home.B11 = true := by kernel_rfl
set_option maxHeartbeats 8000000 in
set_option maxRecDepth 100000 in
theorem landdv_Home.calls (k : Nat) (a0 : Int) (a1 : Bool) (A2 : Option Addr) (c2 : Nat) (l2 : List (S58)) (r1 : Int) (r2 : Int) (r3 : Nat) (r4 : Int) (w : World) (hr2 : Kd.C k58 w A2 l2.length l2) (hc2 : l2.length ≤ c2) (h : landdv_Home.f k a0 a1 l2 = some (r1, r2, r3, r4)) :
  Calls Try.prog 26 #[.int .i64 a0, .bool a1, .slice A2 l2.length c2] w fun e w' => e = .returned (.tuple #[.agg #[.int .i64 r1, .int .i64 r2, .float .f64 r3], .int .i64 r4]) ∧ Below w.heap.size w w' := by
 have hu34 := Try.underlying34
 have hu58 := Try.underlying58
 have HR2 := Aside0.mk hr2
 have HC2 := Aside0.mk hc2
 clear hr2 hc2
 have HB := Aside0.mk (Below.refl w.heap.size w)
 have H : ((landdv_asked.f k a0 l2).bind fun t206 => (if t206 = 0 then (if a1 = true then (some (a0, a0, 0, 0)) else ((math_Inf.f k 1).bind fun t207 => (landdv_Home.l0 k l2 (l2.length : Int) 0 a0 0 t207))) else (some (0, 0, 0, t206)))) = some (r1, r2, r3, r4) := h
 clear h
 replace H := bs_ H; obtain ⟨t206, A4, H⟩ := H
 by_cases c5 : t206 = 0
 ·rw [if_pos c5] at H
  have c5b0 := be_ c5
  have c5b1 := bg_ c5
  clear c5
  by_cases c6 : a1 = true
  ·subst c6
   have H1 : (some (a0, a0, 0, 0)) = some (r1, r2, r3, r4) := by rw [if_pos rfl] at H; exact H
   clear H
   have H := H1
   clear H1
   simp only [Option.some.injEq, Prod.mk.injEq] at H
   obtain ⟨rfl, rfl, rfl, rfl⟩ := H
   go_enter Try.func26, Try.ntmps26
   go_wp2_with (first | ((with_reducible refine gate_dst (N := 6) rfl ?_); refine bx_ (N := 6) #[.int .i64 0, .int .i64 0, .float .f64 0] 34 ⟨fb⟩ ?_; clear HB; intro gb205 w7 HB BK205 GE205; have GW205 := GE205) | ((with_reducible refine gate_callee (f := 64) rfl ?_); refine gl_ (some 14) Try.func64 #[.int .i64 a0, .slice A2 l2.length c2] ?_; (with_reducible refine (landdv_asked.calls k a0 _ _ l2 t206 _ ?side1 ?side2 A4.out).mono ?_); (case side1 => repeat (first | exact (Kd.C_below HR2.out HB.out) | (with_reducible refine Kd.C_alloc ?_ _) | (with_reducible refine Kd.C_drewN ?_ _) | (with_reducible refine Kd.C_drew ?_))); (case side2 => exact HC2.out); rintro e w8 ⟨rfl, hb⟩; refine ⟨_, rfl, ?_⟩; have n0_ := Aside0.mk (blk_below (g := gb205) (o := .cells #[.int .i64 0, .int .i64 0, .float .f64 0] 34 (0, 0)) (kp BK205.out) hb); have n1_ := Aside0.mk (below_step (fb1 GE205) hb); clear BK205; clear HB; have BK205 := n0_; have HB := n1_; clear n0_ n1_; (try clear hb); obtain ⟨hcz9_0, hcz9_1, hcz9_2, hfz9_0, hfz9_1, hfz9_2⟩ := cz3 BK205.out))
   refine bodyPost_ret (results_ct rfl _ _ gb205 34 #[.int .i64 a0, .int .i64 a0, .float .f64 0] (0, 0) _ rfl (kp BK205.out) Try.underlying34 rfl (by kernel_rfl)) rfl ?_
   exact ⟨fe, fb1 GE205⟩
  ·obtain rfl := bf_ c6
   have H1 : ((math_Inf.f k 1).bind fun t207 => (landdv_Home.l0 k l2 (l2.length : Int) 0 a0 0 t207)) = some (r1, r2, r3, r4) := by rw [if_neg (show ¬ (false = true) by decide)] at H; exact H
   clear H
   have H := H1
   clear H1
   replace H := bs_ H; obtain ⟨t207, A10, H⟩ := H
   have H' := Aside0.mk H
   clear H
   go_enter Try.func26, Try.ntmps26
   go_wp2_with (first | ((with_reducible refine gate_dst (N := 6) rfl ?_); refine bx_ (N := 6) #[.int .i64 0, .int .i64 0, .float .f64 0] 34 ⟨fb⟩ ?_; clear HB; intro gb205 w11 HB BK205 GE205; have GW205 := GE205) | ((with_reducible refine gate_callee (f := 64) rfl ?_); refine gl_ (some 14) Try.func64 #[.int .i64 a0, .slice A2 l2.length c2] ?_; (with_reducible refine (landdv_asked.calls k a0 _ _ l2 t206 _ ?side1 ?side2 A4.out).mono ?_); (case side1 => repeat (first | exact (Kd.C_below HR2.out HB.out) | (with_reducible refine Kd.C_alloc ?_ _) | (with_reducible refine Kd.C_drewN ?_ _) | (with_reducible refine Kd.C_drew ?_))); (case side2 => exact HC2.out); rintro e w12 ⟨rfl, hb⟩; refine ⟨_, rfl, ?_⟩; have n0_ := Aside0.mk (blk_below (g := gb205) (o := .cells #[.int .i64 0, .int .i64 0, .float .f64 0] 34 (0, 0)) (kp BK205.out) hb); have n1_ := Aside0.mk (below_step (fb1 GE205) hb); clear BK205; clear HB; have BK205 := n0_; have HB := n1_; clear n0_ n1_; (try clear hb)) | ((with_reducible refine gate_callee (f := 40) rfl ?_); refine gl_ (some 24) Try.func40 #[.int .i64 1] ?_; (with_reducible refine (math_Inf.calls k 1 t207 _ A10.out).mono ?_); rintro e w' ⟨rfl, ⟨nd, rfl⟩⟩; refine ⟨_, rfl, ?_⟩; (try (rw [drewN_self w12]; generalize hq_ : World.drewN w12 _ = w12; have n0_ : Aside0 (w12.heap[gb205]? = some (.cells #[.int .i64 0, .int .i64 0, .float .f64 0] 34 (0, 0))) := ⟨by rw [← hq_]; exact (kp BK205.out)⟩; have n1_ : Aside0 (Below w.heap.size w w12) := ⟨by rw [← hq_]; exact (fb1 GE205)⟩; clear BK205 HB hq_; have BK205 := n0_; have HB := n1_; clear n0_ n1_))) | ((with_reducible refine gate_dst (N := 9) rfl ?_); refine bz_ (N := 9) #[.int .i64 0, .int .i64 0, .float .f64 0] 34 ?_; intro gb208 hg w13 hbox hb; have n0_ := Aside0.mk (blk_below (g := gb205) (o := .cells #[.int .i64 0, .int .i64 0, .float .f64 0] 34 (0, 0)) (kp BK205.out) hb); have n1_ := Aside0.mk (below_step (fb1 GE205) hb); have n2_ := Aside0.mk (hbox); have n3_ := Aside0.mk ((by rw [hg]; exact (below_size (fb1 GE205)) : w.heap.size ≤ gb208)); have n4_ := Aside0.mk ((by rw [hg]; exact (below_size (fb1 GE205)) : w.heap.size ≤ gb208)); have n5_ := Aside0.mk ((by rw [hg]; exact Nat.ne_of_lt (blk_lt (g := gb205) (o := .cells #[.int .i64 0, .int .i64 0, .float .f64 0] 34 (0, 0)) (kp BK205.out)) : gb205 ≠ gb208)); have n6_ := Aside0.mk ((by rw [hg]; exact Nat.ne_of_gt (blk_lt (g := gb205) (o := .cells #[.int .i64 0, .int .i64 0, .float .f64 0] 34 (0, 0)) (kp BK205.out)) : gb208 ≠ gb205)); clear BK205; clear HB; have BK205 := n0_; have HB := n1_; have BK208 := n2_; have GW208 := n3_; have GE208 := n4_; have NB205_208 := n5_; have NB208_205 := n6_; clear n0_ n1_ n2_ n3_ n4_ n5_ n6_; clear hb hbox hg; have hnb14 := NB208_205.out; have hnc14 := NB205_208.out; obtain ⟨hcz15_0, hcz15_1, hcz15_2, hfz15_0, hfz15_1, hfz15_2⟩ := cz3 BK208.out))
   go_loopg [28] k (fun kq v28 w' => ∃ (x28_1 : Int) (x209001_1 : Int) (x209002_1 : Nat), v28 = .int .i64 x28_1 ∧ Aside0 (landdv_Home.l0 kq l2 (l2.length : Int) x28_1 a0 x209001_1 x209002_1 = some (r1, r2, r3, r4)) ∧ Aside0 (kq ≤ k) ∧ Aside0 (w'.heap[gb205]? = some (.cells #[.int .i64 0, .int .i64 0, .float .f64 0] 34 (0, 0))) ∧ Aside0 (w'.heap[gb208]? = some (.cells #[.int .i64 a0, .int .i64 x209001_1, .float .f64 x209002_1] 34 (0, 0))) ∧ Aside0 (Below w.heap.size w w'))
   case atStart => exact ⟨(0), (0), (t207), fz, H', ⟨Nat.le_refl _⟩, ⟨kp1 NB205_208 BK205.out⟩, ⟨kp BK208.out⟩, ⟨fb2 GE205 GE208⟩⟩
   case round =>
    clear H'
    (try clear c2); (try clear c5); (try clear c5b0); (try clear c5b1); (try clear c6); (try clear hcz15_0); (try clear hcz15_1); (try clear hcz15_2); (try clear hfz15_0); (try clear hfz15_1); (try clear hfz15_2)
    obtain ⟨x28_1, x209001_1, x209002_1, rfl, HA, HK1, BK205, BK208, HB⟩ := hrel
    cases gk with
    | zero => exact absurd HA.out (by simp [landdv_Home.l0])
    | succ k1 =>
     have H := HA.out
     clear HA
     simp only [landdv_Home.l0] at H
     by_cases c16 : x28_1 < (l2.length : Int)
     ·rw [if_pos c16] at H
      have c16b0 := decide_eq_true c16
      clear c16
      by_cases c17 : 0 ≤ x28_1
      ·rw [if_pos c17] at H
       have c17b0 := decide_eq_true c17
       clear c17
       by_cases c18 : x28_1 < (l2.length : Int)
       ·rw [if_pos c18] at H
        have c18b0 := decide_eq_true c18
        clear c18
        by_cases c19 : (fLt ((rd_T58 l2 x28_1).f2) x209002_1) = true
        ·rw [if_pos c19] at H
         have c19b0 : (fLt ((rd_T58 l2 x28_1).f2) x209002_1) = true := c19
         clear c19
         have H' := Aside0.mk H
         clear H
         have p209 : 0 ≤ (x28_1 : Int) := of_decide_eq_true (by first | (with_reducible assumption) | assumption)
         have q209 : x28_1 < (l2.length : Int) := of_decide_eq_true (by first | (with_reducible assumption) | assumption)
         obtain ⟨ad209, e209, hx209_0, hx209_1, hx209_2, hx209_3, hx209_4, hx209_5⟩ := at_T58 HR2.out x28_1 p209 q209
         cases e209
         replace hx209_0 := pw_cell_below HB.out hx209_0
         replace hx209_1 := pw_cell_below HB.out hx209_1
         replace hx209_2 := pw_cell_below HB.out hx209_2
         replace hx209_3 := pw_cell_below HB.out hx209_3
         replace hx209_4 := pw_cell_below HB.out hx209_4
         replace hx209_5 := pw_cell_below HB.out hx209_5
         replace p209 := eq_true p209
         replace q209 := eq_true q209
         try go_wp2_with (first | ((with_reducible refine gate_dst (N := 11) rfl ?_); refine bz_ (N := 11) #[.int .i64 0, .int .i64 0, .float .f64 0, .int .i64 0, .float .f64 0, .int .i64 0] 58 ?_; intro gb210 hg w20 hbox hb; have n0_ := Aside0.mk (blk_below (g := gb205) (o := .cells #[.int .i64 0, .int .i64 0, .float .f64 0] 34 (0, 0)) (kp BK205.out) hb); have n1_ := Aside0.mk (blk_below (g := gb208) (o := .cells #[.int .i64 a0, .int .i64 x209001_1, .float .f64 x209002_1] 34 (0, 0)) (kp BK208.out) hb); have n2_ := Aside0.mk (below_step (fb2 GE205 GE208) hb); have n3_ := Aside0.mk (hbox); have n4_ := Aside0.mk ((by rw [hg]; exact (below_size (fb2 GE205 GE208)) : w.heap.size ≤ gb210)); have n5_ := Aside0.mk ((by rw [hg]; exact (below_size (fb2 GE205 GE208)) : w.heap.size ≤ gb210)); have n6_ := Aside0.mk ((by rw [hg]; exact Nat.ne_of_lt (blk_lt (g := gb205) (o := .cells #[.int .i64 0, .int .i64 0, .float .f64 0] 34 (0, 0)) (kp BK205.out)) : gb205 ≠ gb210)); have n7_ := Aside0.mk ((by rw [hg]; exact Nat.ne_of_gt (blk_lt (g := gb205) (o := .cells #[.int .i64 0, .int .i64 0, .float .f64 0] 34 (0, 0)) (kp BK205.out)) : gb210 ≠ gb205)); have n8_ := Aside0.mk ((by rw [hg]; exact Nat.ne_of_lt (blk_lt (g := gb208) (o := .cells #[.int .i64 a0, .int .i64 x209001_1, .float .f64 x209002_1] 34 (0, 0)) (kp BK208.out)) : gb208 ≠ gb210)); have n9_ := Aside0.mk ((by rw [hg]; exact Nat.ne_of_gt (blk_lt (g := gb208) (o := .cells #[.int .i64 a0, .int .i64 x209001_1, .float .f64 x209002_1] 34 (0, 0)) (kp BK208.out)) : gb210 ≠ gb208)); clear BK205; clear BK208; clear HB; have BK205 := n0_; have BK208 := n1_; have HB := n2_; have BK210 := n3_; have GW210 := n4_; have GE210 := n5_; have NB205_210 := n6_; have NB210_205 := n7_; have NB208_210 := n8_; have NB210_208 := n9_; clear n0_ n1_ n2_ n3_ n4_ n5_ n6_ n7_ n8_ n9_; clear hb hbox hg; have hnb21 := NB210_205.out; have hnc21 := NB205_210.out; have hnb22 := NB210_208.out; have hnc22 := NB208_210.out; obtain ⟨hcz23_0, hcz23_1, hcz23_2, hcz23_3, hcz23_4, hcz23_5, hfz23_0, hfz23_1, hfz23_2, hfz23_3, hfz23_4, hfz23_5⟩ := cz6 BK210.out; have hnb24 := NB208_205.out; have hnc24 := NB205_208.out; obtain ⟨hcz25_0, hcz25_1, hcz25_2, hfz25_0, hfz25_1, hfz25_2⟩ := cz3 BK208.out))
         have n0_ : Aside0 (((((((w20.setCell ⟨gb210, 0, none⟩ (.int .i64 ((rd_T58 l2 x28_1).f0))).setCell ⟨gb210, 1, none⟩ (.int .i64 ((rd_T58 l2 x28_1).f1))).setCell ⟨gb210, 2, none⟩ (.float .f64 ((rd_T58 l2 x28_1).f2))).setCell ⟨gb210, 3, none⟩ (.int .i64 ((rd_T58 l2 x28_1).f3))).setCell ⟨gb210, 4, none⟩ (.float .f64 ((rd_T58 l2 x28_1).f4))).setCell ⟨gb210, 5, none⟩ (.int .i64 ((rd_T58 l2 x28_1).f5))).heap[gb205]? = some (.cells #[.int .i64 0, .int .i64 0, .float .f64 0] 34 (0, 0))) := ⟨kp1 NB205_210 BK205.out⟩
         have n1_ : Aside0 (((((((w20.setCell ⟨gb210, 0, none⟩ (.int .i64 ((rd_T58 l2 x28_1).f0))).setCell ⟨gb210, 1, none⟩ (.int .i64 ((rd_T58 l2 x28_1).f1))).setCell ⟨gb210, 2, none⟩ (.float .f64 ((rd_T58 l2 x28_1).f2))).setCell ⟨gb210, 3, none⟩ (.int .i64 ((rd_T58 l2 x28_1).f3))).setCell ⟨gb210, 4, none⟩ (.float .f64 ((rd_T58 l2 x28_1).f4))).setCell ⟨gb210, 5, none⟩ (.int .i64 ((rd_T58 l2 x28_1).f5))).heap[gb208]? = some (.cells #[.int .i64 a0, .int .i64 x209001_1, .float .f64 x209002_1] 34 (0, 0))) := ⟨kp1 NB208_210 BK208.out⟩
         have n2_ : Aside0 (((((((w20.setCell ⟨gb210, 0, none⟩ (.int .i64 ((rd_T58 l2 x28_1).f0))).setCell ⟨gb210, 1, none⟩ (.int .i64 ((rd_T58 l2 x28_1).f1))).setCell ⟨gb210, 2, none⟩ (.float .f64 ((rd_T58 l2 x28_1).f2))).setCell ⟨gb210, 3, none⟩ (.int .i64 ((rd_T58 l2 x28_1).f3))).setCell ⟨gb210, 4, none⟩ (.float .f64 ((rd_T58 l2 x28_1).f4))).setCell ⟨gb210, 5, none⟩ (.int .i64 ((rd_T58 l2 x28_1).f5))).heap[gb210]? = some (.cells #[.int .i64 ((rd_T58 l2 x28_1).f0), .int .i64 ((rd_T58 l2 x28_1).f1), .float .f64 ((rd_T58 l2 x28_1).f2), .int .i64 ((rd_T58 l2 x28_1).f3), .float .f64 ((rd_T58 l2 x28_1).f4), .int .i64 ((rd_T58 l2 x28_1).f5)] 58 (0, 0))) := ⟨kp BK210.out⟩
         have n3_ : Aside0 (Below w.heap.size w ((((((w20.setCell ⟨gb210, 0, none⟩ (.int .i64 ((rd_T58 l2 x28_1).f0))).setCell ⟨gb210, 1, none⟩ (.int .i64 ((rd_T58 l2 x28_1).f1))).setCell ⟨gb210, 2, none⟩ (.float .f64 ((rd_T58 l2 x28_1).f2))).setCell ⟨gb210, 3, none⟩ (.int .i64 ((rd_T58 l2 x28_1).f3))).setCell ⟨gb210, 4, none⟩ (.float .f64 ((rd_T58 l2 x28_1).f4))).setCell ⟨gb210, 5, none⟩ (.int .i64 ((rd_T58 l2 x28_1).f5)))) := ⟨by repeat (first | (with_reducible first | exact HB.out | apply below_alloc | apply pw_below_drewN | apply below_drew1 | refine below_set ?_ GE205.out | refine below_set ?_ GE208.out | refine below_set ?_ GE210.out) | exact HB.out)⟩
         (try clear BK205)
         (try clear BK208)
         (try clear BK210)
         (try clear HB)
         generalize ((((((w20.setCell ⟨gb210, 0, none⟩ (.int .i64 ((rd_T58 l2 x28_1).f0))).setCell ⟨gb210, 1, none⟩ (.int .i64 ((rd_T58 l2 x28_1).f1))).setCell ⟨gb210, 2, none⟩ (.float .f64 ((rd_T58 l2 x28_1).f2))).setCell ⟨gb210, 3, none⟩ (.int .i64 ((rd_T58 l2 x28_1).f3))).setCell ⟨gb210, 4, none⟩ (.float .f64 ((rd_T58 l2 x28_1).f4))).setCell ⟨gb210, 5, none⟩ (.int .i64 ((rd_T58 l2 x28_1).f5))) = w26 at n0_ n1_ n2_ n3_ ⊢
         have BK205 := n0_
         have BK208 := n1_
         have BK210 := n2_
         have HB := n3_
         clear n0_ n1_ n2_ n3_
         have n0_ := Aside0.mk (blk_drew BK205.out)
         have n1_ := Aside0.mk (blk_drew BK208.out)
         have n2_ := Aside0.mk (blk_drew BK210.out)
         have n3_ := Aside0.mk (below_drew1 HB.out)
         clear BK205
         clear BK208
         clear BK210
         clear HB
         have BK205 := n0_
         have BK208 := n1_
         have BK210 := n2_
         have HB := n3_
         clear n0_ n1_ n2_ n3_
         refine start_ (n := 8) (S := fun w' => w'.cell? ⟨gb210, 0, none⟩ = some (.int .i64 ((rd_T58 l2 x28_1).f0)) ∧ w'.cell? ⟨gb210, 1, none⟩ = some (.int .i64 ((rd_T58 l2 x28_1).f1)) ∧ w'.cell? ⟨gb210, 2, none⟩ = some (.float .f64 ((rd_T58 l2 x28_1).f2)) ∧ w'.cell? ⟨gb210, 3, none⟩ = some (.int .i64 ((rd_T58 l2 x28_1).f3)) ∧ w'.cell? ⟨gb210, 4, none⟩ = some (.float .f64 ((rd_T58 l2 x28_1).f4)) ∧ w'.cell? ⟨gb210, 5, none⟩ = some (.int .i64 ((rd_T58 l2 x28_1).f5))) (ds := []) (bz 8 0) (by kernel_rfl) rfl rfl ⟨(blk_cell BK210.out 0).trans rfl, (blk_cell BK210.out 1).trans rfl, (blk_cell BK210.out 2).trans rfl, (blk_cell BK210.out 3).trans rfl, (blk_cell BK210.out 4).trans rfl, (blk_cell BK210.out 5).trans rfl⟩ (fun hHeld => ?_); refine with_tabW landdv_Home.tab11 landdv_Home.bits11 (fun HT_ HW_ => ?_)
         generalize w26.drew = w27 at BK205 BK208 BK210 HB hHeld ⊢
         refine pu2 0 (some 37) (bz 8 1) ?_
         refine pu2 2 (some 39) (bz 8 5) ?_
         refine tk2 1 (some 38) (bz 8 7) ?_
         refine pu2 4 (some 41) (bz 8 23) ?_
         refine tk2 3 (some 40) (bz 8 31) ?_
         refine one_ (i := 5) (N := none) (bz 8 63) rfl rfl (one_of HT_.out (by kernel_rfl)) (by decide) (fun K hK => ?_)
         have hs28 : w27.cell? ⟨gb208, 1, none⟩ = some (.int .i64 x209001_1) := (blk_cell BK208.out 1).trans rfl
         have hfs28 := blk_frozen BK208.out 1
         have hns28_0 := NB205_208.out
         have hns28_2 := NB210_208.out
         have hms28_0 := NB208_205.out
         have hms28_2 := NB208_210.out
         refine skip_ (w1 := ?_) (by rfl) rfl ?_ ?_
         rotate_left
         ·go_simp
          rfl
         refine hK.out _ _ ⟨((cell_far (p := ⟨gb208, _, none⟩) NB210_208.out _).trans (hHeld.1)), ((cell_far (p := ⟨gb208, _, none⟩) NB210_208.out _).trans (hHeld.2.1)), ((cell_far (p := ⟨gb208, _, none⟩) NB210_208.out _).trans (hHeld.2.2.1)), ((cell_far (p := ⟨gb208, _, none⟩) NB210_208.out _).trans (hHeld.2.2.2.1)), ((cell_far (p := ⟨gb208, _, none⟩) NB210_208.out _).trans (hHeld.2.2.2.2.1)), ((cell_far (p := ⟨gb208, _, none⟩) NB210_208.out _).trans (hHeld.2.2.2.2.2))⟩ (fun hHeld => ?_)
         clear hK K
         refine pu2 6 (some 42) (bz 8 127) ?_
         refine one_ (i := 7) (N := none) (bz 8 255) rfl rfl (one_of HT_.out (by kernel_rfl)) (by decide) (fun K hK => ?_)
         have hs29 : w27.cell? ⟨gb208, 2, none⟩ = some (.float .f64 x209002_1) := (blk_cell BK208.out 2).trans rfl
         have hfs29 := blk_frozen BK208.out 2
         have hns29_0 := NB205_208.out
         have hns29_2 := NB210_208.out
         have hms29_0 := NB208_205.out
         have hms29_2 := NB208_210.out
         refine skip_ (w1 := ?_) (by rfl) rfl ?_ ?_
         rotate_left
         ·go_simp
          rfl
         refine hK.out _ _ ⟨((cell_far (p := ⟨gb208, _, none⟩) NB210_208.out _).trans (hHeld.1)), ((cell_far (p := ⟨gb208, _, none⟩) NB210_208.out _).trans (hHeld.2.1)), ((cell_far (p := ⟨gb208, _, none⟩) NB210_208.out _).trans (hHeld.2.2.1)), ((cell_far (p := ⟨gb208, _, none⟩) NB210_208.out _).trans (hHeld.2.2.2.1)), ((cell_far (p := ⟨gb208, _, none⟩) NB210_208.out _).trans (hHeld.2.2.2.2.1)), ((cell_far (p := ⟨gb208, _, none⟩) NB210_208.out _).trans (hHeld.2.2.2.2.2))⟩ (fun hHeld => ?_)
         clear hK K
         refine done_ (done_of HT_.out (by kernel_rfl)) ?_
         try go_wp2
         go_roundg k1
         case measure => have := HK1.out; omega
         case rel => exact ⟨(wrap64 (x28_1 + 1)), ((rd_T58 l2 x28_1).f0), ((rd_T58 l2 x28_1).f2), fz, H', ⟨by have := HK1.out; omega⟩, ⟨kp1 NB205_208 BK205.out⟩, ⟨kp BK208.out⟩, ⟨by repeat (first | (with_reducible first | exact HB.out | apply below_alloc | apply pw_below_drewN | apply below_drew1 | refine below_set ?_ GE205.out | refine below_set ?_ GE208.out | refine below_set ?_ GE210.out) | exact HB.out)⟩⟩
        ·rw [if_neg c19] at H
         have c19b0 := bf_ c19
         clear c19
         have H' := Aside0.mk H
         clear H
         have p209 : 0 ≤ (x28_1 : Int) := of_decide_eq_true (by first | (with_reducible assumption) | assumption)
         have q209 : x28_1 < (l2.length : Int) := of_decide_eq_true (by first | (with_reducible assumption) | assumption)
         obtain ⟨ad209, e209, hx209_0, hx209_1, hx209_2, hx209_3, hx209_4, hx209_5⟩ := at_T58 HR2.out x28_1 p209 q209
         cases e209
         replace hx209_0 := pw_cell_below HB.out hx209_0
         replace hx209_1 := pw_cell_below HB.out hx209_1
         replace hx209_2 := pw_cell_below HB.out hx209_2
         replace hx209_3 := pw_cell_below HB.out hx209_3
         replace hx209_4 := pw_cell_below HB.out hx209_4
         replace hx209_5 := pw_cell_below HB.out hx209_5
         replace p209 := eq_true p209
         replace q209 := eq_true q209
         go_wp2_with (first | ((with_reducible refine gate_dst (N := 11) rfl ?_); refine bz_ (N := 11) #[.int .i64 0, .int .i64 0, .float .f64 0, .int .i64 0, .float .f64 0, .int .i64 0] 58 ?_; intro gb210 hg w30 hbox hb; have n0_ := Aside0.mk (blk_below (g := gb205) (o := .cells #[.int .i64 0, .int .i64 0, .float .f64 0] 34 (0, 0)) (kp BK205.out) hb); have n1_ := Aside0.mk (blk_below (g := gb208) (o := .cells #[.int .i64 a0, .int .i64 x209001_1, .float .f64 x209002_1] 34 (0, 0)) (kp BK208.out) hb); have n2_ := Aside0.mk (below_step (fb2 GE205 GE208) hb); have n3_ := Aside0.mk (hbox); have n4_ := Aside0.mk ((by rw [hg]; exact (below_size (fb2 GE205 GE208)) : w.heap.size ≤ gb210)); have n5_ := Aside0.mk ((by rw [hg]; exact (below_size (fb2 GE205 GE208)) : w.heap.size ≤ gb210)); have n6_ := Aside0.mk ((by rw [hg]; exact Nat.ne_of_lt (blk_lt (g := gb205) (o := .cells #[.int .i64 0, .int .i64 0, .float .f64 0] 34 (0, 0)) (kp BK205.out)) : gb205 ≠ gb210)); have n7_ := Aside0.mk ((by rw [hg]; exact Nat.ne_of_gt (blk_lt (g := gb205) (o := .cells #[.int .i64 0, .int .i64 0, .float .f64 0] 34 (0, 0)) (kp BK205.out)) : gb210 ≠ gb205)); have n8_ := Aside0.mk ((by rw [hg]; exact Nat.ne_of_lt (blk_lt (g := gb208) (o := .cells #[.int .i64 a0, .int .i64 x209001_1, .float .f64 x209002_1] 34 (0, 0)) (kp BK208.out)) : gb208 ≠ gb210)); have n9_ := Aside0.mk ((by rw [hg]; exact Nat.ne_of_gt (blk_lt (g := gb208) (o := .cells #[.int .i64 a0, .int .i64 x209001_1, .float .f64 x209002_1] 34 (0, 0)) (kp BK208.out)) : gb210 ≠ gb208)); clear BK205; clear BK208; clear HB; have BK205 := n0_; have BK208 := n1_; have HB := n2_; have BK210 := n3_; have GW210 := n4_; have GE210 := n5_; have NB205_210 := n6_; have NB210_205 := n7_; have NB208_210 := n8_; have NB210_208 := n9_; clear n0_ n1_ n2_ n3_ n4_ n5_ n6_ n7_ n8_ n9_; clear hb hbox hg; have hnb31 := NB210_205.out; have hnc31 := NB205_210.out; have hnb32 := NB210_208.out; have hnc32 := NB208_210.out; obtain ⟨hcz33_0, hcz33_1, hcz33_2, hcz33_3, hcz33_4, hcz33_5, hfz33_0, hfz33_1, hfz33_2, hfz33_3, hfz33_4, hfz33_5⟩ := cz6 BK210.out; have hnb34 := NB208_205.out; have hnc34 := NB205_208.out; obtain ⟨hcz35_0, hcz35_1, hcz35_2, hfz35_0, hfz35_1, hfz35_2⟩ := cz3 BK208.out))
         go_roundg k1
         case measure => have := HK1.out; omega
         case rel => exact ⟨(wrap64 (x28_1 + 1)), (x209001_1), (x209002_1), fz, H', ⟨by have := HK1.out; omega⟩, ⟨kp1 NB205_210 BK205.out⟩, ⟨kp1 NB208_210 BK208.out⟩, ⟨by repeat (first | (with_reducible first | exact HB.out | apply below_alloc | apply pw_below_drewN | apply below_drew1 | refine below_set ?_ GE205.out | refine below_set ?_ GE208.out | refine below_set ?_ GE210.out) | exact HB.out)⟩⟩
       ·rw [if_neg c18] at H
        exact absurd H (by simp)
      ·rw [if_neg c17] at H
       exact absurd H (by simp)
     ·rw [if_neg c16] at H
      have c16b0 := decide_eq_false c16
      clear c16
      simp only [Option.some.injEq, Prod.mk.injEq] at H
      obtain ⟨rfl, rfl, rfl, rfl⟩ := H
      have hnb36 := NB208_205.out
      have hnc36 := NB205_208.out
      obtain ⟨hcz37_0, hcz37_1, hcz37_2, hfz37_0, hfz37_1, hfz37_2⟩ := cz3 BK208.out
      obtain ⟨hcz38_0, hcz38_1, hcz38_2, hfz38_0, hfz38_1, hfz38_2⟩ := cz3 BK205.out
      go_wp2
      refine bodyPost_ret (results_ct rfl _ _ gb205 34 #[.int .i64 a0, .int .i64 x209001_1, .float .f64 x209002_1] (0, 0) _ rfl (kp BK205.out) Try.underlying34 rfl (by kernel_rfl)) rfl ?_
      exact ⟨fe, fb2 GE205 GE208⟩
 ·rw [if_neg c5] at H
  have c5b0 := bh_ c5
  have c5b1 := bi_ c5
  simp only [Option.some.injEq, Prod.mk.injEq] at H
  obtain ⟨rfl, rfl, rfl, rfl⟩ := H
  go_enter Try.func26, Try.ntmps26
  go_wp2_with (first | ((with_reducible refine gate_dst (N := 6) rfl ?_); refine bx_ (N := 6) #[.int .i64 0, .int .i64 0, .float .f64 0] 34 ⟨fb⟩ ?_; clear HB; intro gb205 w39 HB BK205 GE205; have GW205 := GE205) | ((with_reducible refine gate_callee (f := 64) rfl ?_); refine gl_ (some 14) Try.func64 #[.int .i64 a0, .slice A2 l2.length c2] ?_; (with_reducible refine (landdv_asked.calls k a0 _ _ l2 t206 _ ?side1 ?side2 A4.out).mono ?_); (case side1 => repeat (first | exact (Kd.C_below HR2.out HB.out) | (with_reducible refine Kd.C_alloc ?_ _) | (with_reducible refine Kd.C_drewN ?_ _) | (with_reducible refine Kd.C_drew ?_))); (case side2 => exact HC2.out); rintro e w40 ⟨rfl, hb⟩; refine ⟨_, rfl, ?_⟩; have n0_ := Aside0.mk (blk_below (g := gb205) (o := .cells #[.int .i64 0, .int .i64 0, .float .f64 0] 34 (0, 0)) (kp BK205.out) hb); have n1_ := Aside0.mk (below_step (fb1 GE205) hb); clear BK205; clear HB; have BK205 := n0_; have HB := n1_; clear n0_ n1_; (try clear hb); obtain ⟨hcz41_0, hcz41_1, hcz41_2, hfz41_0, hfz41_1, hfz41_2⟩ := cz3 BK205.out))
  refine bodyPost_ret (results_ct rfl _ _ gb205 34 #[.int .i64 0, .int .i64 0, .float .f64 0] (0, 0) _ rfl (kp BK205.out) Try.underlying34 rfl (by kernel_rfl)) rfl ?_
  exact ⟨fe, fb1 GE205⟩

end Go.Proofs.Ytjkhckbfkinheaa.GAa
