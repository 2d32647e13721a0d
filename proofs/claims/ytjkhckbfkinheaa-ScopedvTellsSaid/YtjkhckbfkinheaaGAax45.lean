-- written by a program of this session (wip/pp): see NOTES.md
import Derived.Test.YtjkhckbfkinheaaGAax0
import Derived.Test.YtjkhckbfkinheaaGAax43
import Derived.Test.YtjkhckbfkinheaaGAax44
namespace Go.Proofs.Ytjkhckbfkinheaa.GAa
open Go.RowKit Go.Proofs.YtjkhckbfkinheaaW.PrintWords Go.Proofs.YtjkhckbfkinheaaW.PrintLast Go.Proofs.YtjkhckbfkinheaaW.PrintMore
attribute [local go_sem] max2_int min2_int max_two min_two max_three min_three max_four min_four   -- for this text's walks alone
attribute [local go_sem high] binOp_flss binOp_fgtr binOp_fleq binOp_fgeq binOp_feql binOp_fneq run_fadd run_fsub run_fmul run_fquo unary_fneg run_ftoint run_fofint run_feqIn ext_bits ext_frombits ext_trunc
set_option linter.unusedVariables false
set_option linter.unusedSimpArgs false

/-! ### beaconref16_Tell: function 21 -/
mutual
def beaconref16_Tell.j0 : Nat → Int → List (S58) → Bool → Int → Int → Nat → Option ((List (S56)) × Int)
 | 0, _, _, _, _, _, _ => none
 | k + 1, x0, x2, x25, x561000, x561001, x561002 => if x25 = true then (some (([] : List (S56)), 1)) else (if x561001 = x0 then (beaconref16_Tell.j1 k x2 ([] : List (S56))) else (if ([] : List (S56)).length < 3518437208883 then (beaconref16_Tell.j1 k x2 (([] : List (S56)) ++ [(⟨x0, 2, 0, x561002, x561001⟩ : S56)])) else (none)))
def beaconref16_Tell.j1 : Nat → List (S58) → List (S56) → Option ((List (S56)) × Int)
 | 0, _, _ => none
 | k + 1, x2, x8 => beaconref16_Tell.l0 k x2 x8 0
def beaconref16_Tell.l0 : Nat → List (S58) → List (S56) → Int → Option ((List (S56)) × Int)
 | 0, _, _, _ => none
 | k + 1, x2, x8, x9 => if x9 < (x2.length : Int) then (if 0 ≤ x9 then (if ((rd_T58 x2 x9).f1) = 2 then (if x8.length < 3518437208883 then (beaconref16_Tell.l0 k x2 (x8 ++ [(⟨(rd_T58 x2 x9).f0, 2, (rd_T58 x2 x9).f2, (rd_T58 x2 x9).f4, (rd_T58 x2 x9).f5⟩ : S56)]) (wrap64 (x9 + 1))) else (none)) else (beaconref16_Tell.l0 k x2 x8 (wrap64 (x9 + 1)))) else (none)) else (beaconref16_Tell.l1 k x8 0)
def beaconref16_Tell.l1 : Nat → List (S56) → Int → Option ((List (S56)) × Int)
 | 0, _, _ => none
 | k + 1, x8, x11 => if x11 < (x8.length : Int) then (beaconref16_Tell.l2 k x8 x11 x11) else (some (x8, 0))
def beaconref16_Tell.l2 : Nat → List (S56) → Int → Int → Option ((List (S56)) × Int)
 | 0, _, _, _ => none
 | k + 1, x8, x11, x12 => if x12 > 0 then (if 0 ≤ x12 then (if x12 < (x8.length : Int) then (if 0 ≤ (wrap64 (x12 - 1)) then (if (wrap64 (x12 - 1)) < (x8.length : Int) then (beaconref16_Tell.j5 k x8 x11 x12 (decide (((rd_T56 x8 x12).f0) < ((rd_T56 x8 (wrap64 (x12 - 1))).f0)))) else (none)) else (none)) else (none)) else (none)) else (beaconref16_Tell.j5 k x8 x11 x12 false)
def beaconref16_Tell.j5 : Nat → List (S56) → Int → Int → Bool → Option ((List (S56)) × Int)
 | 0, _, _, _, _ => none
 | k + 1, x8, x11, x12, x86 => if x86 = true then (if 0 ≤ (wrap64 (x12 - 1)) then (if (wrap64 (x12 - 1)) < (x8.length : Int) then (if 0 ≤ x12 then (if x12 < (x8.length : Int) then (beaconref16_Tell.l2 k ((x8.set (x12 : Int).toNat (⟨(rd_T56 x8 (wrap64 (x12 - 1))).f0, (rd_T56 x8 (wrap64 (x12 - 1))).f1, (rd_T56 x8 (wrap64 (x12 - 1))).f2, (rd_T56 x8 (wrap64 (x12 - 1))).f3, (rd_T56 x8 (wrap64 (x12 - 1))).f4⟩ : S56)).set ((wrap64 (x12 - 1)) : Int).toNat (⟨(rd_T56 x8 x12).f0, (rd_T56 x8 x12).f1, (rd_T56 x8 x12).f2, (rd_T56 x8 x12).f3, (rd_T56 x8 x12).f4⟩ : S56)) x11 (wrap64 (x12 - 1))) else (none)) else (none)) else (none)) else (none)) else (beaconref16_Tell.l1 k x8 (wrap64 (x11 + 1)))
end
def beaconref16_Tell.f (k : Nat) (a0 : Int) (a1_0 : Int) (a1_1 : Int) (a1_2 : Nat) (l2 : List (S58)) : Option ((List (S56)) × Int) := (beaconref16_number.f k a0).bind fun t561 => (if t561 = true then ((beaconref16_MayHome.f k a0 a1_0 a1_1 a1_2).bind fun t562 => (if t562 = true then ((beaconref16_MayBalls.f k a0 l2).bind fun t563 => (beaconref16_Tell.j0 k a0 l2 (!t563) a1_0 a1_1 a1_2)) else (beaconref16_Tell.j0 k a0 l2 true a1_0 a1_1 a1_2))) else (some (([] : List (S56)), 20)))
def beaconref16_Tell.T18 : Bool × List (List Nat × List Nat) := (true, [([], []), ([0], [0]), ([1], [1]), ([2], [2]), ([2], [2]), ([3, 4, 2], [2, 3, 4]), ([5, 2], [2, 5]), ([6, 2], [2, 6]), ([2], [2]), ([2], [2]), ([9, 2], [2, 9]), ([8, 10, 2], [2, 8, 10]), ([11, 2], [2, 11]), ([12, 2], [2, 12]), ([7, 13, 2], [2, 7, 13]), ([2, 14], [2, 14])])
def beaconref16_Tell.B18 : List Nat := [0, 1, 3, 7, 7, 31, 63, 127, 7, 7, 519, 1799, 3847, 7943, 16383, 32767]
theorem beaconref16_Tell.tab18 : rtab .any (opsOf Try.f21 18) = beaconref16_Tell.T18 := by kernel_rfl
theorem beaconref16_Tell.bits18 : waitsOk beaconref16_Tell.T18.2 beaconref16_Tell.B18 = true := by kernel_rfl
def beaconref16_Tell.T20 : Bool × List (List Nat × List Nat) := (true, [([], []), ([], []), ([], []), ([], []), ([3], [3]), ([], []), ([], []), ([6], [6]), ([5, 7], [5, 7]), ([8], [8]), ([], []), ([], []), ([10, 11], [10, 11]), ([12], [12]), ([0, 1, 0, 1, 5, 6, 7, 8, 9, 13], [0, 1]), ([14, 9, 0, 1, 5, 6, 7, 8, 9, 13], [9, 14]), ([2, 4, 0, 1, 2, 3, 4, 5, 6, 7, 8, 9, 10, 11, 12, 13, 14, 15], [2, 4]), ([16, 13, 15, 0, 1, 2, 3, 4, 5, 6, 7, 8, 9, 10, 11, 12, 13, 14, 15], [13, 16])])
def beaconref16_Tell.B20 : List Nat := [0, 0, 0, 0, 8, 0, 0, 64, 224, 480, 0, 0, 3072, 7168, 16355, 32739, 65535, 131071]
theorem beaconref16_Tell.tab20 : rtab .any (opsOf Try.f21 20) = beaconref16_Tell.T20 := by kernel_rfl
theorem beaconref16_Tell.bits20 : waitsOk beaconref16_Tell.T20.2 beaconref16_Tell.B20 = true := by kernel_rfl
set_option maxHeartbeats 8000000 in
set_option maxRecDepth 100000 in
theorem beaconref16_Tell.calls (k : Nat) (a0 : Int) (a1_0 : Int) (a1_1 : Int) (a1_2 : Nat) (A2 : Option Addr) (c2 : Nat) (l2 : List (S58)) (r1 : List (S56)) (r2 : Int) (w : World) (hr2 : Kd.C k58 w A2 l2.length l2) (hc2 : l2.length ≤ c2) (h : beaconref16_Tell.f k a0 a1_0 a1_1 a1_2 l2 = some (r1, r2)) :
  Calls Try.prog 21 #[.int .i64 a0, .agg #[.int .i64 a1_0, .int .i64 a1_1, .float .f64 a1_2], .slice A2 l2.length c2] w fun e w' => ∃ v0_ : Value, e = .returned (.tuple #[v0_, .int .i64 r2]) ∧ Kd.R k56 56 w' w.heap.size (fun _ => True) v0_ r1 ∧ Below w.heap.size w w' := by
 have hu34 := Try.underlying34
 have hu56 := Try.underlying56
 have hu58 := Try.underlying58
 have HR2 := Aside0.mk hr2
 have HC2 := Aside0.mk hc2
 clear hr2 hc2
 have HB := Aside0.mk (Below.refl w.heap.size w)
 have H : ((beaconref16_number.f k a0).bind fun t561 => (if t561 = true then ((beaconref16_MayHome.f k a0 a1_0 a1_1 a1_2).bind fun t562 => (if t562 = true then ((beaconref16_MayBalls.f k a0 l2).bind fun t563 => (beaconref16_Tell.j0 k a0 l2 (!t563) a1_0 a1_1 a1_2)) else (beaconref16_Tell.j0 k a0 l2 true a1_0 a1_1 a1_2))) else (some (([] : List (S56)), 20)))) = some (r1, r2) := h
 clear h
 replace H := bs_ H; obtain ⟨t561, A4, H⟩ := H
 by_cases c5 : t561 = true
 ·subst c5
  have H1 : ((beaconref16_MayHome.f k a0 a1_0 a1_1 a1_2).bind fun t562 => (if t562 = true then ((beaconref16_MayBalls.f k a0 l2).bind fun t563 => (beaconref16_Tell.j0 k a0 l2 (!t563) a1_0 a1_1 a1_2)) else (beaconref16_Tell.j0 k a0 l2 true a1_0 a1_1 a1_2))) = some (r1, r2) := by rw [if_pos rfl] at H; exact H
  clear H
  have H := H1
  clear H1
  have HC6 := Aside0.mk H
  clear H
  go_enter Try.func21, Try.ntmps21
  go_upto_region 3 with (first | ((with_reducible refine gate_dst (N := 4) rfl ?_); refine bx_ (N := 4) #[.int .i64 a1_0, .int .i64 a1_1, .float .f64 a1_2] 34 ⟨fb⟩ ?_; clear HB; intro gb560 w7 HB BK560 GE560; have GW560 := GE560) | ((with_reducible refine gate_callee (f := 59) rfl ?_); refine gl_ (some 14) Try.func59 #[.int .i64 a0] ?_; (with_reducible refine (beaconref16_number.calls k a0 true _ A4.out).mono ?_); rintro e w' ⟨rfl, ⟨nd, rfl⟩⟩; refine ⟨_, rfl, ?_⟩))
  (try simp only [Act.put, qa, qb, qc])
  go_cut [25] (fun v25 wc => ∃ (kq : Nat) (x25_5 : Bool), v25 = .bool x25_5 ∧ Aside0 (beaconref16_Tell.j0 kq a0 l2 x25_5 a1_0 a1_1 a1_2 = some (r1, r2)) ∧ Aside0 (kq ≤ k) ∧ Aside0 (wc.heap[gb560]? = some (.cells #[.int .i64 a1_0, .int .i64 a1_1, .float .f64 a1_2] 34 (0, 0))) ∧ Aside0 (Below w.heap.size w wc))
  case first =>
   have H := HC6.out
   clear HC6
   replace H := bs_ H; obtain ⟨t562, A8, H⟩ := H
   by_cases c9 : t562 = true
   ·subst c9
    have H1 : ((beaconref16_MayBalls.f k a0 l2).bind fun t563 => (beaconref16_Tell.j0 k a0 l2 (!t563) a1_0 a1_1 a1_2)) = some (r1, r2) := by rw [if_pos rfl] at H; exact H
    clear H
    have H := H1
    clear H1
    replace H := bs_ H; obtain ⟨t563, A10, H⟩ := H
    have H' := Aside0.mk H
    clear H
    obtain ⟨hcz11_0, hcz11_1, hcz11_2, hfz11_0, hfz11_1, hfz11_2⟩ := cz3 BK560.out
    go_wp2_with (first | ((with_reducible refine gate_callee (f := 23) rfl ?_); refine gl_ (some 18) Try.func23 #[.int .i64 a0, .agg #[.int .i64 a1_0, .int .i64 a1_1, .float .f64 a1_2]] ?_; (with_reducible refine (beaconref16_MayHome.calls k a0 a1_0 a1_1 a1_2 true _ A8.out).mono ?_); rintro e w12 ⟨rfl, hb⟩; refine ⟨_, rfl, ?_⟩; have n0_ := Aside0.mk (blk_below (g := gb560) (o := .cells #[.int .i64 a1_0, .int .i64 a1_1, .float .f64 a1_2] 34 (0, 0)) (kp BK560.out) hb); have n1_ := Aside0.mk (below_step (fb1 GE560) hb); clear BK560; clear HB; have BK560 := n0_; have HB := n1_; clear n0_ n1_; (try clear hb)) | (go_at_call 24; (with_reducible refine (beaconref16_MayBalls.calls k a0 _ _ l2 t563 _ ?side1 ?side2 A10.out).mono ?_); (case side1 => repeat (first | exact (Kd.C_below HR2.out HB.out) | (with_reducible refine Kd.C_alloc ?_ _) | (with_reducible refine Kd.C_drewN ?_ _) | (with_reducible refine Kd.C_drew ?_))); (case side2 => exact HC2.out); rintro e w13 ⟨rfl, hb⟩; have n0_ := Aside0.mk (blk_below (g := gb560) (o := .cells #[.int .i64 a1_0, .int .i64 a1_1, .float .f64 a1_2] 34 (0, 0)) (kp BK560.out) hb); have n1_ := Aside0.mk (below_step (fb1 GE560) hb); clear BK560; clear HB; have BK560 := n0_; have HB := n1_; clear n0_ n1_; (try clear hb)))
    go_meet
    case rel => exact ⟨_, (!t563), fz, H', ⟨fl⟩, ⟨kp BK560.out⟩, ⟨fb1 GE560⟩⟩
   ·obtain rfl := bf_ c9
    have H1 : (beaconref16_Tell.j0 k a0 l2 true a1_0 a1_1 a1_2) = some (r1, r2) := by rw [if_neg (show ¬ (false = true) by decide)] at H; exact H
    clear H
    have H := H1
    clear H1
    have H' := Aside0.mk H
    clear H
    obtain ⟨hcz14_0, hcz14_1, hcz14_2, hfz14_0, hfz14_1, hfz14_2⟩ := cz3 BK560.out
    go_wp2_with (first | ((with_reducible refine gate_callee (f := 23) rfl ?_); refine gl_ (some 18) Try.func23 #[.int .i64 a0, .agg #[.int .i64 a1_0, .int .i64 a1_1, .float .f64 a1_2]] ?_; (with_reducible refine (beaconref16_MayHome.calls k a0 a1_0 a1_1 a1_2 false _ A8.out).mono ?_); rintro e w15 ⟨rfl, hb⟩; refine ⟨_, rfl, ?_⟩; have n0_ := Aside0.mk (blk_below (g := gb560) (o := .cells #[.int .i64 a1_0, .int .i64 a1_1, .float .f64 a1_2] 34 (0, 0)) (kp BK560.out) hb); have n1_ := Aside0.mk (below_step (fb1 GE560) hb); clear BK560; clear HB; have BK560 := n0_; have HB := n1_; clear n0_ n1_; (try clear hb)))
    go_meet
    case rel => exact ⟨_, (true), fz, H', ⟨fl⟩, ⟨kp BK560.out⟩, ⟨fb1 GE560⟩⟩
  case rest =>
   clear HC6
   (try clear c2); (try clear c5)
   obtain ⟨kq, x25_5, rfl, HA, HJ5, BK560, HB⟩ := hcut
   cases kq with
   | zero => exact absurd HA.out (by simp [beaconref16_Tell.j0])
   | succ kj5 =>
    have H := HA.out
    clear HA
    simp only [beaconref16_Tell.j0] at H
    by_cases c16 : x25_5 = true
    ·subst c16
     have H1 : (some (([] : List (S56)), 1)) = some (r1, r2) := by rw [if_pos rfl] at H; exact H
     clear H
     have H := H1
     clear H1
     simp only [Option.some.injEq, Prod.mk.injEq] at H
     obtain ⟨rfl, rfl⟩ := H
     go_wp2
     go_ret2
     exact ⟨_, by first | rfl | (simp [errW_none, errW_some] <;> rfl) | (simp [*, errW_none, errW_some] <;> rfl), by first | exact Kd.R_nil _ _ _ _ _ | exact Kd.N_nil _ _ _ _ _ | exact Kd.V_nil _ _ _ _ _ | exact Kd.Q_nil _ _ _ _ _ | exact Kd.S_nil _ _ _ _ _, fb1 GE560⟩
    ·obtain rfl := bf_ c16
     have H1 : (if a1_1 = a0 then (beaconref16_Tell.j1 kj5 l2 ([] : List (S56))) else (if ([] : List (S56)).length < 3518437208883 then (beaconref16_Tell.j1 kj5 l2 (([] : List (S56)) ++ [(⟨a0, 2, 0, a1_2, a1_1⟩ : S56)])) else (none))) = some (r1, r2) := by rw [if_neg (show ¬ (false = true) by decide)] at H; exact H
     clear H
     have H := H1
     clear H1
     have HC17 := Aside0.mk H
     clear H
     obtain ⟨hcz18_0, hcz18_1, hcz18_2, hfz18_0, hfz18_1, hfz18_2⟩ := cz3 BK560.out
     go_upto_if 29 with (fail)
     go_cut [8] (fun v8 wc => ∃ (kq : Nat) (x8_16 : List (S56)), Aside0 (beaconref16_Tell.j1 kq l2 x8_16 = some (r1, r2)) ∧ Aside0 (kq ≤ kj5) ∧ Aside0 (Kd.R k56 56 wc w.heap.size (fun _ => True) v8 x8_16) ∧ Aside0 (wc.heap[gb560]? = some (.cells #[.int .i64 a1_0, .int .i64 a1_1, .float .f64 a1_2] 34 (0, 0))) ∧ Aside0 (Below w.heap.size w wc))
     case first =>
      have H := HC17.out
      clear HC17
      by_cases c19 : a1_1 = a0
      ·rw [if_pos c19] at H
       have c19b0 := be_ c19
       have c19b1 := bg_ c19
       clear c19
       (first | rw [c19b0] | (simp only [i64_w, i32_w]; rw [c19b0]) | skip)
       have H' := Aside0.mk H
       clear H
       go_wp2
       go_meet
       case rel => exact ⟨_, (([] : List (S56))), H', ⟨by have := HJ5.out; exact fl⟩, ⟨by first | exact Kd.R_nil _ _ _ _ _ | exact Kd.N_nil _ _ _ _ _ | exact Kd.V_nil _ _ _ _ _ | exact Kd.Q_nil _ _ _ _ _ | exact Kd.S_nil _ _ _ _ _⟩, ⟨kp BK560.out⟩, ⟨fb1 GE560⟩⟩
      ·rw [if_neg c19] at H
       have c19b0 := bh_ c19
       have c19b1 := bi_ c19
       (first | rw [c19b0] | (simp only [i64_w, i32_w]; rw [c19b0]) | skip)
       by_cases c20 : ([] : List (S56)).length < 3518437208883
       ·rw [if_pos c20] at H
        have LMc20 := Aside0.mk c20
        clear c20
        obtain ⟨y564, hy564⟩ : ∃ y_ : List (S56), y_ = (([] : List (S56)) ++ [(⟨a0, 2, 0, a1_2, a1_1⟩ : S56)]) := ⟨_, rfl⟩
        replace H : (beaconref16_Tell.j1 kj5 l2 y564) = some (r1, r2) := by first | (rw [hy564]; with_reducible exact H) | (have H2_ := (Option.bind_some _ _).symm.trans H; rw [hy564]; with_reducible exact H2_) | (have H2_ := (Option.bind_some _ _).symm.trans H; with_reducible exact H2_) | with_reducible exact H | (rw [hy564]; exact H) | exact H
        have Ny564 := Aside0.mk hy564
        clear hy564
        have H' := Aside0.mk H
        clear H
        obtain ⟨hcz21_0, hcz21_1, hcz21_2, hfz21_0, hfz21_1, hfz21_2⟩ := cz3 BK560.out
        go_wp2_with (first | ((with_reducible refine gate_builtin (b := .append) (xs := #[.tmp 30, .tmp 37]) rfl ?_); at_builtin; refine Kd.R_append k56 (w0 := w) w.heap.size rfl (.tmp 30) (.tmp 37) 35 56 (.agg #[(.int .i64 0), (.int .i64 0), (.float .f64 0), (.float .f64 0), (.int .i64 0)]) 40 rfl Try.underlying35 info56 rfl (by decide) (by omega) (.slice none 0 0) ([] : List (S56)) (⟨a0, 2, 0, a1_2, a1_1⟩ : S56) [.int .i64 a0, .int .i64 2, .float .f64 0, .float .f64 a1_2, .int .i64 a1_1] (fun _ => True) (fun _ => False) rfl rfl ?aP (fun _ hk => hk.elim) ?aF ?aO ?aB ?aS ?aL ?_; (case aP => exact k56_mkM _ _ _ (⟨a0, 2, 0, a1_2, a1_1⟩ : S56)); (case aB => exact (fb1 GE560)); (case aF => exact (fun _ _ => trivial)); (case aO => exact ((Kd.R_nil _ _ _ _ (fun _ => True)))); (case aS => exact (below_size (fb1 GE560))); (case aL => have := LMc20.out; omega); intro v565 w22 ho hb hg hat; rw [← Ny564.out] at ho; have n0_ := Aside0.mk (blk_grown (g := gb560) (o := .cells #[.int .i64 a1_0, .int .i64 a1_1, .float .f64 a1_2] 34 (0, 0)) (kp BK560.out) hg (by simp [Value.ownBlock])); have n1_ := Aside0.mk (hb); have n2_ := Aside0.mk (ho); clear BK560; clear HB; have BK560 := n0_; have HB := n1_; have HO566 := n2_; clear n0_ n1_ n2_; clear ho hb hg hat))
        go_meet
        case rel => exact ⟨_, (y564), H', ⟨by have := HJ5.out; exact fl⟩, ⟨by (with_reducible repeat (first | apply Kd.R_alloc | apply Kd.R_drewN | apply Kd.R_drew)); exact HO566.out⟩, ⟨kp BK560.out⟩, ⟨fb1 GE560⟩⟩
       ·rw [if_neg c20] at H
        exact absurd H (by simp)
     case rest =>
      clear HC17
      (try clear c2); (try clear c5); (try clear c16); (try clear hcz18_0); (try clear hcz18_1); (try clear hcz18_2); (try clear hfz18_0); (try clear hfz18_1); (try clear hfz18_2)
      obtain ⟨kq, x8_16, HA, HJ16, HO_8, BK560, HB⟩ := hcut
      cases kq with
      | zero => exact absurd HA.out (by simp [beaconref16_Tell.j1])
      | succ kj16 =>
       have H := HA.out
       clear HA
       simp only [beaconref16_Tell.j1] at H
       have H' := Aside0.mk H
       clear H
       go_wp2
       go_loopg [8, 9] kj16 (fun kq v8 v9 w' => ∃ (x8_3 : List (S56)) (x9_3 : Int), v9 = .int .i64 x9_3 ∧ Aside0 (beaconref16_Tell.l0 kq l2 x8_3 x9_3 = some (r1, r2)) ∧ Aside0 (kq ≤ kj16) ∧ Aside0 (Kd.R k56 56 w' w.heap.size (fun _ => True) v8 x8_3) ∧ Aside0 (w'.heap[gb560]? = some (.cells #[.int .i64 a1_0, .int .i64 a1_1, .float .f64 a1_2] 34 (0, 0))) ∧ Aside0 (Below w.heap.size w w'))
       case atStart => exact ⟨(x8_16), (0), fz, H', ⟨Nat.le_refl _⟩, ⟨by (with_reducible repeat (first | apply Kd.R_alloc | apply Kd.R_drewN | apply Kd.R_drew)); exact HO_8.out⟩, ⟨kp BK560.out⟩, ⟨fb1 GE560⟩⟩
       case round =>
        clear H'
        (try clear c2); (try clear c5); (try clear c16); (try clear hcz18_0); (try clear hcz18_1); (try clear hcz18_2); (try clear hfz18_0); (try clear hfz18_1); (try clear hfz18_2)
        obtain ⟨x8_3, x9_3, rfl, HA, HK3, HO_8, BK560, HB⟩ := hrel
        cases gk with
        | zero => exact absurd HA.out (by simp [beaconref16_Tell.l0])
        | succ k3 =>
         have H := HA.out
         clear HA
         simp only [beaconref16_Tell.l0] at H
         by_cases c23 : x9_3 < (l2.length : Int)
         ·rw [if_pos c23] at H
          have c23b0 := decide_eq_true c23
          clear c23
          by_cases c24 : 0 ≤ x9_3
          ·rw [if_pos c24] at H
           have c24b0 := decide_eq_true c24
           clear c24
           by_cases c25 : ((rd_T58 l2 x9_3).f1) = 2
           ·rw [if_pos c25] at H
            have c25b0 := be_ c25
            have c25b1 := bg_ c25
            clear c25
            by_cases c26 : x8_3.length < 3518437208883
            ·rw [if_pos c26] at H
             have LMc26 := Aside0.mk c26
             clear c26
             obtain ⟨y569, hy569⟩ : ∃ y_ : List (S56), y_ = (x8_3 ++ [(⟨(rd_T58 l2 x9_3).f0, 2, (rd_T58 l2 x9_3).f2, (rd_T58 l2 x9_3).f4, (rd_T58 l2 x9_3).f5⟩ : S56)]) := ⟨_, rfl⟩
             replace H : (beaconref16_Tell.l0 k3 l2 y569 (wrap64 (x9_3 + 1))) = some (r1, r2) := by first | (rw [hy569]; with_reducible exact H) | (have H2_ := (Option.bind_some _ _).symm.trans H; rw [hy569]; with_reducible exact H2_) | (have H2_ := (Option.bind_some _ _).symm.trans H; with_reducible exact H2_) | with_reducible exact H | (rw [hy569]; exact H) | exact H
             have Ny569 := Aside0.mk hy569
             clear hy569
             have H' := Aside0.mk H
             clear H
             have p567 : 0 ≤ (x9_3 : Int) := of_decide_eq_true (by first | (with_reducible assumption) | assumption)
             have q567 : x9_3 < (l2.length : Int) := of_decide_eq_true (by first | (with_reducible assumption) | assumption)
             obtain ⟨ad567, e567, hx567_0, hx567_1, hx567_2, hx567_3, hx567_4, hx567_5⟩ := at_T58 HR2.out x9_3 p567 q567
             cases e567
             replace hx567_0 := pw_cell_below HB.out hx567_0
             replace hx567_1 := pw_cell_below HB.out hx567_1
             replace hx567_2 := pw_cell_below HB.out hx567_2
             replace hx567_3 := pw_cell_below HB.out hx567_3
             replace hx567_4 := pw_cell_below HB.out hx567_4
             replace hx567_5 := pw_cell_below HB.out hx567_5
             replace p567 := eq_true p567
             replace q567 := eq_true q567
             go_wp2_with (first | ((with_reducible refine gate_dst (N := 10) rfl ?_); refine bz_ (N := 10) #[.int .i64 0, .int .i64 0, .float .f64 0, .int .i64 0, .float .f64 0, .int .i64 0] 58 ?_; intro gb568 hg w27 hbox hb; have n0_ := Aside0.mk (Kd.R_below (by (with_reducible repeat (first | apply Kd.R_alloc | apply Kd.R_drewN | apply Kd.R_drew)); exact HO_8.out) hb); have n1_ := Aside0.mk (blk_below (g := gb560) (o := .cells #[.int .i64 a1_0, .int .i64 a1_1, .float .f64 a1_2] 34 (0, 0)) (kp BK560.out) hb); have n2_ := Aside0.mk (below_step (fb1 GE560) hb); have n3_ := Aside0.mk (hbox); have n4_ := Aside0.mk ((by rw [hg]; exact (below_size (fb1 GE560)) : w.heap.size ≤ gb568)); have n5_ := Aside0.mk ((by rw [hg]; exact (below_size (fb1 GE560)) : w.heap.size ≤ gb568)); have n6_ := Aside0.mk ((by rw [hg]; exact Nat.ne_of_lt (blk_lt (g := gb560) (o := .cells #[.int .i64 a1_0, .int .i64 a1_1, .float .f64 a1_2] 34 (0, 0)) (kp BK560.out)) : gb560 ≠ gb568)); have n7_ := Aside0.mk ((by rw [hg]; exact Nat.ne_of_gt (blk_lt (g := gb560) (o := .cells #[.int .i64 a1_0, .int .i64 a1_1, .float .f64 a1_2] 34 (0, 0)) (kp BK560.out)) : gb568 ≠ gb560)); clear HO_8; clear BK560; clear HB; have HO_8 := n0_; have BK560 := n1_; have HB := n2_; have BK568 := n3_; have GW568 := n4_; have GE568 := n5_; have NB560_568 := n6_; have NB568_560 := n7_; clear n0_ n1_ n2_ n3_ n4_ n5_ n6_ n7_; clear hb hbox hg; have hnb28 := NB568_560.out; have hnc28 := NB560_568.out; obtain ⟨hcz29_0, hcz29_1, hcz29_2, hcz29_3, hcz29_4, hcz29_5, hfz29_0, hfz29_1, hfz29_2, hfz29_3, hfz29_4, hfz29_5⟩ := cz6 BK568.out) | ((with_reducible refine gate_builtin (b := .append) (xs := #[.tmp 52, .tmp 62]) rfl ?_); at_builtin; refine Kd.R_append k56 (w0 := w) w.heap.size rfl (.tmp 52) (.tmp 62) 35 56 (.agg #[(.int .i64 0), (.int .i64 0), (.float .f64 0), (.float .f64 0), (.int .i64 0)]) 40 rfl Try.underlying35 info56 rfl (by decide) (by omega) u8 x8_3 (⟨(rd_T58 l2 x9_3).f0, 2, (rd_T58 l2 x9_3).f2, (rd_T58 l2 x9_3).f4, (rd_T58 l2 x9_3).f5⟩ : S56) [.int .i64 ((rd_T58 l2 x9_3).f0), .int .i64 2, .float .f64 ((rd_T58 l2 x9_3).f2), .float .f64 ((rd_T58 l2 x9_3).f4), .int .i64 ((rd_T58 l2 x9_3).f5)] (fun _ => True) (fun _ => False) rfl (by first | (go_simp; done) | (go_simp; rfl)) ?aP (fun _ hk => hk.elim) ?aF ?aO ?aB ?aS ?aL ?_; (case aP => exact k56_mkM _ _ _ (⟨(rd_T58 l2 x9_3).f0, 2, (rd_T58 l2 x9_3).f2, (rd_T58 l2 x9_3).f4, (rd_T58 l2 x9_3).f5⟩ : S56)); (case aB => exact (fb2 GE560 GE568)); (case aF => exact (fun _ _ => trivial)); (case aO => exact (by (with_reducible repeat (first | apply Kd.R_alloc | apply Kd.R_drewN | apply Kd.R_drew)); exact Kd.R_mono (Kd.R_far (p := ⟨gb568, 5, none⟩) (Kd.R_far (p := ⟨gb568, 4, none⟩) (Kd.R_far (p := ⟨gb568, 3, none⟩) (Kd.R_far (p := ⟨gb568, 2, none⟩) (Kd.R_far (p := ⟨gb568, 1, none⟩) (Kd.R_far (p := ⟨gb568, 0, none⟩) (Kd.R_types HO_8.out BK568.out (by decide)) (fun _ hk => hk.2) (.int .i64 ((rd_T58 l2 x9_3).f0))) (fun _ hk => hk.2) (.int .i64 ((rd_T58 l2 x9_3).f1))) (fun _ hk => hk.2) (.float .f64 ((rd_T58 l2 x9_3).f2))) (fun _ hk => hk.2) (.int .i64 ((rd_T58 l2 x9_3).f3))) (fun _ hk => hk.2) (.float .f64 ((rd_T58 l2 x9_3).f4))) (fun _ hk => hk.2) (.int .i64 ((rd_T58 l2 x9_3).f5))) (fun _ hk => trivial))); (case aS => exact (below_size (fb2 GE560 GE568))); (case aL => have := LMc26.out; omega); intro v570 w30 ho hb hg hat; rw [← Ny569.out] at ho; have n0_ := Aside0.mk (blk_grown (g := gb560) (o := .cells #[.int .i64 a1_0, .int .i64 a1_1, .float .f64 a1_2] 34 (0, 0)) (kp1 NB560_568 BK560.out) hg (Kd.R_ne HO_8.out BK560.out (by decide))); have n1_ := Aside0.mk (blk_grown (g := gb568) (o := .cells #[.int .i64 ((rd_T58 l2 x9_3).f0), .int .i64 ((rd_T58 l2 x9_3).f1), .float .f64 ((rd_T58 l2 x9_3).f2), .int .i64 ((rd_T58 l2 x9_3).f3), .float .f64 ((rd_T58 l2 x9_3).f4), .int .i64 ((rd_T58 l2 x9_3).f5)] 58 (0, 0)) (kp BK568.out) hg (Kd.R_ne HO_8.out BK568.out (by decide))); have n2_ := Aside0.mk (hb); have n3_ := Aside0.mk (ho); clear BK560; clear BK568; clear HB; clear HO_8; have BK560 := n0_; have BK568 := n1_; have HB := n2_; have HO571 := n3_; clear n0_ n1_ n2_ n3_; clear ho hb hg hat))
             go_roundg k3
             case measure => have := HJ5.out; have := HJ16.out; have := HK3.out; omega
             case rel => exact ⟨(y569), (wrap64 (x9_3 + 1)), fz, H', ⟨by have := HJ5.out; have := HJ16.out; have := HK3.out; omega⟩, ⟨by (with_reducible repeat (first | apply Kd.R_alloc | apply Kd.R_drewN | apply Kd.R_drew)); exact HO571.out⟩, ⟨kp BK560.out⟩, ⟨fb2 GE560 GE568⟩⟩
            ·rw [if_neg c26] at H
             exact absurd H (by simp)
           ·rw [if_neg c25] at H
            have c25b0 := bh_ c25
            have c25b1 := bi_ c25
            have H' := Aside0.mk H
            clear H
            have p567 : 0 ≤ (x9_3 : Int) := of_decide_eq_true (by first | (with_reducible assumption) | assumption)
            have q567 : x9_3 < (l2.length : Int) := of_decide_eq_true (by first | (with_reducible assumption) | assumption)
            obtain ⟨ad567, e567, hx567_0, hx567_1, hx567_2, hx567_3, hx567_4, hx567_5⟩ := at_T58 HR2.out x9_3 p567 q567
            cases e567
            replace hx567_0 := pw_cell_below HB.out hx567_0
            replace hx567_1 := pw_cell_below HB.out hx567_1
            replace hx567_2 := pw_cell_below HB.out hx567_2
            replace hx567_3 := pw_cell_below HB.out hx567_3
            replace hx567_4 := pw_cell_below HB.out hx567_4
            replace hx567_5 := pw_cell_below HB.out hx567_5
            replace p567 := eq_true p567
            replace q567 := eq_true q567
            go_wp2_with (first | ((with_reducible refine gate_dst (N := 10) rfl ?_); refine bz_ (N := 10) #[.int .i64 0, .int .i64 0, .float .f64 0, .int .i64 0, .float .f64 0, .int .i64 0] 58 ?_; intro gb568 hg w31 hbox hb; have n0_ := Aside0.mk (Kd.R_below (by (with_reducible repeat (first | apply Kd.R_alloc | apply Kd.R_drewN | apply Kd.R_drew)); exact HO_8.out) hb); have n1_ := Aside0.mk (blk_below (g := gb560) (o := .cells #[.int .i64 a1_0, .int .i64 a1_1, .float .f64 a1_2] 34 (0, 0)) (kp BK560.out) hb); have n2_ := Aside0.mk (below_step (fb1 GE560) hb); have n3_ := Aside0.mk (hbox); have n4_ := Aside0.mk ((by rw [hg]; exact (below_size (fb1 GE560)) : w.heap.size ≤ gb568)); have n5_ := Aside0.mk ((by rw [hg]; exact (below_size (fb1 GE560)) : w.heap.size ≤ gb568)); have n6_ := Aside0.mk ((by rw [hg]; exact Nat.ne_of_lt (blk_lt (g := gb560) (o := .cells #[.int .i64 a1_0, .int .i64 a1_1, .float .f64 a1_2] 34 (0, 0)) (kp BK560.out)) : gb560 ≠ gb568)); have n7_ := Aside0.mk ((by rw [hg]; exact Nat.ne_of_gt (blk_lt (g := gb560) (o := .cells #[.int .i64 a1_0, .int .i64 a1_1, .float .f64 a1_2] 34 (0, 0)) (kp BK560.out)) : gb568 ≠ gb560)); clear HO_8; clear BK560; clear HB; have HO_8 := n0_; have BK560 := n1_; have HB := n2_; have BK568 := n3_; have GW568 := n4_; have GE568 := n5_; have NB560_568 := n6_; have NB568_560 := n7_; clear n0_ n1_ n2_ n3_ n4_ n5_ n6_ n7_; clear hb hbox hg; have hnb32 := NB568_560.out; have hnc32 := NB560_568.out; obtain ⟨hcz33_0, hcz33_1, hcz33_2, hcz33_3, hcz33_4, hcz33_5, hfz33_0, hfz33_1, hfz33_2, hfz33_3, hfz33_4, hfz33_5⟩ := cz6 BK568.out))
            go_roundg k3
            case measure => have := HJ5.out; have := HJ16.out; have := HK3.out; omega
            case rel => exact ⟨(x8_3), (wrap64 (x9_3 + 1)), fz, H', ⟨by have := HJ5.out; have := HJ16.out; have := HK3.out; omega⟩, ⟨by (with_reducible repeat (first | apply Kd.R_alloc | apply Kd.R_drewN | apply Kd.R_drew)); exact Kd.R_mono (Kd.R_far (p := ⟨gb568, 5, none⟩) (Kd.R_far (p := ⟨gb568, 4, none⟩) (Kd.R_far (p := ⟨gb568, 3, none⟩) (Kd.R_far (p := ⟨gb568, 2, none⟩) (Kd.R_far (p := ⟨gb568, 1, none⟩) (Kd.R_far (p := ⟨gb568, 0, none⟩) (Kd.R_types HO_8.out BK568.out (by decide)) (fun _ hk => hk.2) (.int .i64 ((rd_T58 l2 x9_3).f0))) (fun _ hk => hk.2) (.int .i64 ((rd_T58 l2 x9_3).f1))) (fun _ hk => hk.2) (.float .f64 ((rd_T58 l2 x9_3).f2))) (fun _ hk => hk.2) (.int .i64 ((rd_T58 l2 x9_3).f3))) (fun _ hk => hk.2) (.float .f64 ((rd_T58 l2 x9_3).f4))) (fun _ hk => hk.2) (.int .i64 ((rd_T58 l2 x9_3).f5))) (fun _ hk => trivial)⟩, ⟨kp1 NB560_568 BK560.out⟩, ⟨fb2 GE560 GE568⟩⟩
          ·rw [if_neg c24] at H
           exact absurd H (by simp)
         ·rw [if_neg c23] at H
          have c23b0 := decide_eq_false c23
          clear c23
          have H' := Aside0.mk H
          clear H
          go_wp2
          go_loopg [11] k3 (fun kq v11 w' => ∃ (x8_4 : List (S56)) (x11_4 : Int), v11 = .int .i64 x11_4 ∧ Aside0 (beaconref16_Tell.l1 kq x8_4 x11_4 = some (r1, r2)) ∧ Aside0 (kq ≤ k3) ∧ Aside0 (Kd.R k56 56 w' w.heap.size (fun _ => True) u8 x8_4) ∧ Aside0 (w'.heap[gb560]? = some (.cells #[.int .i64 a1_0, .int .i64 a1_1, .float .f64 a1_2] 34 (0, 0))) ∧ Aside0 (Below w.heap.size w w'))
          case atStart => exact ⟨(x8_3), (0), fz, H', ⟨Nat.le_refl _⟩, ⟨by (with_reducible repeat (first | apply Kd.R_alloc | apply Kd.R_drewN | apply Kd.R_drew)); exact HO_8.out⟩, ⟨kp BK560.out⟩, ⟨fb1 GE560⟩⟩
          case round =>
           clear H'
           (try clear c2); (try clear c5); (try clear c16); (try clear c23); (try clear c23b0); (try clear hcz18_0); (try clear hcz18_1); (try clear hcz18_2); (try clear hfz18_0); (try clear hfz18_1); (try clear hfz18_2)
           obtain ⟨x8_4, x11_4, rfl, HA, HK4, HO_8, BK560, HB⟩ := hrel
           cases gk with
           | zero => exact absurd HA.out (by simp [beaconref16_Tell.l1])
           | succ k4 =>
            have H := HA.out
            clear HA
            simp only [beaconref16_Tell.l1] at H
            by_cases c34 : x11_4 < (x8_4.length : Int)
            ·rw [if_pos c34] at H
             have c34b0 := decide_eq_true c34
             clear c34
             have H' := Aside0.mk H
             clear H
             obtain ⟨Ao35, co35, eo35⟩ := Kd.R_slice HO_8.out
             subst eo35
             go_wp2
             go_loopg [12] k4 (fun kq v12 w' => ∃ (x8_5 : List (S56)) (x12_5 : Int), v12 = .int .i64 x12_5 ∧ Aside0 (beaconref16_Tell.l2 kq x8_5 x11_4 x12_5 = some (r1, r2)) ∧ Aside0 (kq ≤ k4) ∧ Aside0 (Kd.R k56 56 w' w.heap.size (fun _ => True) (.slice Ao35 x8_4.length co35) x8_5) ∧ Aside0 (w'.heap[gb560]? = some (.cells #[.int .i64 a1_0, .int .i64 a1_1, .float .f64 a1_2] 34 (0, 0))) ∧ Aside0 (Below w.heap.size w w'))
             case atStart => exact ⟨(x8_4), (x11_4), fz, H', ⟨Nat.le_refl _⟩, ⟨by (with_reducible repeat (first | apply Kd.R_alloc | apply Kd.R_drewN | apply Kd.R_drew)); exact HO_8.out⟩, ⟨kp BK560.out⟩, ⟨fb1 GE560⟩⟩
             case round =>
              clear H'
              (try clear c2); (try clear c5); (try clear c16); (try clear c23); (try clear c23b0); (try clear c34); (try clear c34b0); (try clear hcz18_0); (try clear hcz18_1); (try clear hcz18_2); (try clear hfz18_0); (try clear hfz18_1); (try clear hfz18_2)
              obtain ⟨x8_5, x12_5, rfl, HA, HK5, HO_8, BK560, HB⟩ := hrel
              have hl8_5 := (Kd.R_reads' HO_8.out).1
              rw [hl8_5] at HO_8
              (try simp only [hl8_5])
              (try simp only [hl8_5] at BK560)
              cases gk with
              | zero => exact absurd HA.out (by simp [beaconref16_Tell.l2])
              | succ k5 =>
               have H := HA.out
               clear HA
               simp only [beaconref16_Tell.l2] at H
               have HC36 := Aside0.mk H
               clear H
               go_upto_region 18 with (fail)
               go_cut [86] (fun v86 wc => ∃ (kq : Nat) (x86_35 : Bool), v86 = .bool x86_35 ∧ Aside0 (beaconref16_Tell.j5 kq x8_5 x11_4 x12_5 x86_35 = some (r1, r2)) ∧ Aside0 (kq ≤ k5) ∧ Aside0 (Kd.R k56 56 wc w.heap.size (fun _ => True) (.slice Ao35 x8_5.length co35) x8_5) ∧ Aside0 (wc.heap[gb560]? = some (.cells #[.int .i64 a1_0, .int .i64 a1_1, .float .f64 a1_2] 34 (0, 0))) ∧ Aside0 (Below w.heap.size w wc))
               case first =>
                have H := HC36.out
                clear HC36
                by_cases c37 : x12_5 > 0
                ·rw [if_pos c37] at H
                 have c37b0 := decide_eq_true c37
                 clear c37
                 (first | rw [c37b0] | (simp only [i64_w, i32_w]; rw [c37b0]) | skip)
                 by_cases c38 : 0 ≤ x12_5
                 ·rw [if_pos c38] at H
                  have c38b0 := decide_eq_true c38
                  clear c38
                  by_cases c39 : x12_5 < (x8_5.length : Int)
                  ·rw [if_pos c39] at H
                   have c39b0 := decide_eq_true c39
                   clear c39
                   obtain ⟨ji40, hji40⟩ : ∃ j_ : Int, (wrap64 (x12_5 - 1)) = j_ := ⟨_, rfl⟩
                   replace H : (if 0 ≤ (ji40) then (if (ji40) < (x8_5.length : Int) then (beaconref16_Tell.j5 k5 x8_5 x11_4 x12_5 (decide (((rd_T56 x8_5 x12_5).f0) < ((rd_T56 x8_5 (ji40)).f0)))) else (none)) else (none)) = some (r1, r2) := by first | (rw [hji40] at H; exact H) | (simp only [hji40] at H ⊢; exact H)
                   have hji40w : (IntKind.i64.wrap (x12_5 - 1)) = ji40 := (i64_w _).trans hji40
                   by_cases c41 : 0 ≤ (ji40)
                   ·rw [if_pos c41] at H
                    have c41b0 := decide_eq_true c41
                    clear c41
                    by_cases c42 : (ji40) < (x8_5.length : Int)
                    ·rw [if_pos c42] at H
                     have c42b0 := decide_eq_true c42
                     clear c42
                     have H' := Aside0.mk H
                     clear H
                     try go_wp2
                     have n0_ := Aside0.mk (Kd.R_drew HO_8.out)
                     have n1_ := Aside0.mk (blk_drew BK560.out)
                     have n2_ := Aside0.mk (below_drew1 HB.out)
                     clear HO_8
                     clear BK560
                     clear HB
                     have HO_8 := n0_
                     have BK560 := n1_
                     have HB := n2_
                     clear n0_ n1_ n2_
                     have p572 : 0 ≤ (x12_5 : Int) := of_decide_eq_true (by first | (with_reducible assumption) | assumption)
                     have q572 : x12_5 < (x8_5.length : Int) := of_decide_eq_true (by first | (with_reducible assumption) | assumption)
                     obtain ⟨ad572, e572, hx572_0, hx572_1, hx572_2, hx572_3, hx572_4⟩ := at_T56 (Kd.R_reads' HO_8.out).2.2 x12_5 p572 q572
                     cases e572
                     replace p572 := eq_true p572
                     replace q572 := eq_true q572
                     have p573 : 0 ≤ ((ji40) : Int) := of_decide_eq_true (by first | (with_reducible assumption) | assumption)
                     have q573 : (ji40) < (x8_5.length : Int) := of_decide_eq_true (by first | (with_reducible assumption) | assumption)
                     obtain ⟨ad573, e573, hx573_0, hx573_1, hx573_2, hx573_3, hx573_4⟩ := at_T56 (Kd.R_reads' HO_8.out).2.2 (ji40) p573 q573
                     obtain rfl : ad572 = ad573 := (by injection e573)
                     replace p573 := eq_true p573
                     replace q573 := eq_true q573
                     refine start_ (n := 16) (S := fun w' => w'.cell? (ad572.add ((x12_5).toNat * 5)) = some (.int .i64 ((rd_T56 x8_5 x12_5).f0)) ∧ w'.cell? ⟨(ad572.add ((x12_5).toNat * 5)).block, (ad572.add ((x12_5).toNat * 5)).off + 1, none⟩ = some (.int .i64 ((rd_T56 x8_5 x12_5).f1)) ∧ w'.cell? ⟨(ad572.add ((x12_5).toNat * 5)).block, (ad572.add ((x12_5).toNat * 5)).off + 2, none⟩ = some (.float .f64 ((rd_T56 x8_5 x12_5).f2)) ∧ w'.cell? ⟨(ad572.add ((x12_5).toNat * 5)).block, (ad572.add ((x12_5).toNat * 5)).off + 3, none⟩ = some (.float .f64 ((rd_T56 x8_5 x12_5).f3)) ∧ w'.cell? ⟨(ad572.add ((x12_5).toNat * 5)).block, (ad572.add ((x12_5).toNat * 5)).off + 4, none⟩ = some (.int .i64 ((rd_T56 x8_5 x12_5).f4)) ∧ w'.cell? (ad572.add (((ji40)).toNat * 5)) = some (.int .i64 ((rd_T56 x8_5 (ji40)).f0)) ∧ w'.cell? ⟨(ad572.add (((ji40)).toNat * 5)).block, (ad572.add (((ji40)).toNat * 5)).off + 1, none⟩ = some (.int .i64 ((rd_T56 x8_5 (ji40)).f1)) ∧ w'.cell? ⟨(ad572.add (((ji40)).toNat * 5)).block, (ad572.add (((ji40)).toNat * 5)).off + 2, none⟩ = some (.float .f64 ((rd_T56 x8_5 (ji40)).f2)) ∧ w'.cell? ⟨(ad572.add (((ji40)).toNat * 5)).block, (ad572.add (((ji40)).toNat * 5)).off + 3, none⟩ = some (.float .f64 ((rd_T56 x8_5 (ji40)).f3)) ∧ w'.cell? ⟨(ad572.add (((ji40)).toNat * 5)).block, (ad572.add (((ji40)).toNat * 5)).off + 4, none⟩ = some (.int .i64 ((rd_T56 x8_5 (ji40)).f4))) (ds := []) (bz 16 0) (by kernel_rfl) rfl rfl ⟨hx572_0, hx572_1, hx572_2, hx572_3, hx572_4, hx573_0, hx573_1, hx573_2, hx573_3, hx573_4⟩ (fun hHeld => ?_); refine with_tabW beaconref16_Tell.tab18 beaconref16_Tell.bits18 (fun HT_ HW_ => ?_)
                     generalize wr.drew = w43 at HO_8 BK560 HB hx572_0 hx572_1 hx572_2 hx572_3 hx572_4 hx573_0 hx573_1 hx573_2 hx573_3 hx573_4 hHeld ⊢
                     refine pu2 0 (some 71) (bz 16 1) ?_
                     refine pu2 1 (some 72) (bz 16 3) ?_
                     refine pu2 2 (some 73) (bz 16 7) ?_
                     refine pu2 3 (some 74) (bz 16 15) ?_
                     refine pu2 4 (some 75) (bz 16 31) ?_
                     refine pu2 5 (some 76) (bz 16 63) ?_
                     refine pu2 6 (some 77) (bz 16 127) ?_
                     refine pu2 8 (some 79) (bz 16 383) ?_
                     refine pu2 9 (some 80) (bz 16 895) ?_
                     refine pu2 10 (some 81) (bz 16 1919) ?_
                     refine pu2 11 (some 82) (bz 16 3967) ?_
                     refine pu2 12 (some 83) (bz 16 8063) ?_
                     refine tk2 7 (some 78) (bz 16 8191) ?_
                     refine tk2 13 (some 84) (bz 16 16383) ?_
                     refine pu2 14 (some 85) (bz 16 32767) ?_
                     refine pu2 15 (some 86) (bz 16 65535) ?_
                     refine done_ (done_of HT_.out (by kernel_rfl)) ?_
                     try go_wp2
                     go_meet
                     case rel => exact ⟨_, (decide (((rd_T56 x8_5 x12_5).f0) < ((rd_T56 x8_5 (ji40)).f0))), (by first | rfl | (simp; done) | (simp only [← hji40] <;> (first | rfl | simp)) | (simp [*]; done)), H', ⟨by have := HJ5.out; have := HJ16.out; have := HK3.out; have := HK4.out; have := HK5.out; exact fl⟩, ⟨by (try simp only [hl8_5]); (with_reducible repeat (first | apply Kd.R_alloc | apply Kd.R_drewN | apply Kd.R_drew)); exact HO_8.out⟩, ⟨by (try simp only [hl8_5]); (with_reducible repeat (first | refine blk_drewN ?_ _ | refine blk_drew ?_ | refine blk_alloc ?_ _)); exact BK560.out⟩, ⟨fb1 GE560⟩⟩
                    ·rw [if_neg c42] at H
                     exact absurd H (by simp)
                   ·rw [if_neg c41] at H
                    exact absurd H (by simp)
                  ·rw [if_neg c39] at H
                   exact absurd H (by simp)
                 ·rw [if_neg c38] at H
                  exact absurd H (by simp)
                ·rw [if_neg c37] at H
                 have c37b0 := decide_eq_false c37
                 clear c37
                 (first | rw [c37b0] | (simp only [i64_w, i32_w]; rw [c37b0]) | skip)
                 have H' := Aside0.mk H
                 clear H
                 try go_wp2
                 have n0_ := Aside0.mk (Kd.R_drew HO_8.out)
                 have n1_ := Aside0.mk (blk_drew BK560.out)
                 have n2_ := Aside0.mk (below_drew1 HB.out)
                 clear HO_8
                 clear BK560
                 clear HB
                 have HO_8 := n0_
                 have BK560 := n1_
                 have HB := n2_
                 clear n0_ n1_ n2_
                 refine start_ (n := 16) (S := fun w' => True) (ds := []) (bz 16 0) (by kernel_rfl) rfl rfl trivial (fun hHeld => ?_); refine with_tabW beaconref16_Tell.tab18 beaconref16_Tell.bits18 (fun HT_ HW_ => ?_)
                 generalize wr.drew = w44 at HO_8 BK560 HB hHeld ⊢
                 refine pu2 0 (some 71) (bz 16 1) ?_
                 refine pu2 1 (some 72) (bz 16 3) ?_
                 refine pu2 2 (some 73) (bz 16 7) ?_
                 refine pz2 3 (some 74) (bz 16 15) ?_
                 refine pz2 4 (some 75) (bz 16 31) ?_
                 refine pz2 5 (some 76) (bz 16 63) ?_
                 refine pz2 6 (some 77) (bz 16 127) ?_
                 refine pz2 7 (some 78) (bz 16 255) ?_
                 refine pz2 8 (some 79) (bz 16 511) ?_
                 refine pz2 9 (some 80) (bz 16 1023) ?_
                 refine pz2 10 (some 81) (bz 16 2047) ?_
                 refine pz2 11 (some 82) (bz 16 4095) ?_
                 refine pz2 12 (some 83) (bz 16 8191) ?_
                 refine pz2 13 (some 84) (bz 16 16383) ?_
                 refine pz2 14 (some 85) (bz 16 32767) ?_
                 refine pu2 15 (some 86) (bz 16 65535) ?_
                 refine done_ (done_of HT_.out (by kernel_rfl)) ?_
                 try go_wp2
                 go_meet
                 case rel => exact ⟨_, (false), fz, H', ⟨by have := HJ5.out; have := HJ16.out; have := HK3.out; have := HK4.out; have := HK5.out; exact fl⟩, ⟨by (try simp only [hl8_5]); (with_reducible repeat (first | apply Kd.R_alloc | apply Kd.R_drewN | apply Kd.R_drew)); exact HO_8.out⟩, ⟨by (try simp only [hl8_5]); (with_reducible repeat (first | refine blk_drewN ?_ _ | refine blk_drew ?_ | refine blk_alloc ?_ _)); exact BK560.out⟩, ⟨fb1 GE560⟩⟩
               case rest =>
                clear HC36
                (try clear c2); (try clear c5); (try clear c16); (try clear c23); (try clear c23b0); (try clear c34); (try clear c34b0); (try clear hcz18_0); (try clear hcz18_1); (try clear hcz18_2); (try clear hfz18_0); (try clear hfz18_1); (try clear hfz18_2)
                obtain ⟨kq, x86_35, rfl, HA, HJ35, HO_8, BK560, HB⟩ := hcut
                cases kq with
                | zero => exact absurd HA.out (by simp [beaconref16_Tell.j5])
                | succ kj35 =>
                 have H := HA.out
                 clear HA
                 simp only [beaconref16_Tell.j5] at H
                 by_cases c45 : x86_35 = true
                 ·subst c45
                  have H1 : (if 0 ≤ (wrap64 (x12_5 - 1)) then (if (wrap64 (x12_5 - 1)) < (x8_5.length : Int) then (if 0 ≤ x12_5 then (if x12_5 < (x8_5.length : Int) then (beaconref16_Tell.l2 kj35 ((x8_5.set (x12_5 : Int).toNat (⟨(rd_T56 x8_5 (wrap64 (x12_5 - 1))).f0, (rd_T56 x8_5 (wrap64 (x12_5 - 1))).f1, (rd_T56 x8_5 (wrap64 (x12_5 - 1))).f2, (rd_T56 x8_5 (wrap64 (x12_5 - 1))).f3, (rd_T56 x8_5 (wrap64 (x12_5 - 1))).f4⟩ : S56)).set ((wrap64 (x12_5 - 1)) : Int).toNat (⟨(rd_T56 x8_5 x12_5).f0, (rd_T56 x8_5 x12_5).f1, (rd_T56 x8_5 x12_5).f2, (rd_T56 x8_5 x12_5).f3, (rd_T56 x8_5 x12_5).f4⟩ : S56)) x11_4 (wrap64 (x12_5 - 1))) else (none)) else (none)) else (none)) else (none)) = some (r1, r2) := by rw [if_pos rfl] at H; exact H
                  clear H
                  have H := H1
                  clear H1
                  obtain ⟨ji46, hji46⟩ : ∃ j_ : Int, (wrap64 (x12_5 - 1)) = j_ := ⟨_, rfl⟩
                  replace H : (if 0 ≤ (ji46) then (if (ji46) < (x8_5.length : Int) then (if 0 ≤ x12_5 then (if x12_5 < (x8_5.length : Int) then (beaconref16_Tell.l2 kj35 ((x8_5.set (x12_5 : Int).toNat (⟨(rd_T56 x8_5 (ji46)).f0, (rd_T56 x8_5 (ji46)).f1, (rd_T56 x8_5 (ji46)).f2, (rd_T56 x8_5 (ji46)).f3, (rd_T56 x8_5 (ji46)).f4⟩ : S56)).set ((ji46) : Int).toNat (⟨(rd_T56 x8_5 x12_5).f0, (rd_T56 x8_5 x12_5).f1, (rd_T56 x8_5 x12_5).f2, (rd_T56 x8_5 x12_5).f3, (rd_T56 x8_5 x12_5).f4⟩ : S56)) x11_4 ji46) else (none)) else (none)) else (none)) else (none)) = some (r1, r2) := by first | (rw [hji46] at H; exact H) | (simp only [hji46] at H ⊢; exact H)
                  have hji46w : (IntKind.i64.wrap (x12_5 - 1)) = ji46 := (i64_w _).trans hji46
                  by_cases c47 : 0 ≤ (ji46)
                  ·rw [if_pos c47] at H
                   have c47b0 := decide_eq_true c47
                   clear c47
                   by_cases c48 : (ji46) < (x8_5.length : Int)
                   ·rw [if_pos c48] at H
                    have c48b0 := decide_eq_true c48
                    clear c48
                    by_cases c49 : 0 ≤ x12_5
                    ·rw [if_pos c49] at H
                     have c49b0 := decide_eq_true c49
                     clear c49
                     by_cases c50 : x12_5 < (x8_5.length : Int)
                     ·rw [if_pos c50] at H
                      have c50b0 := decide_eq_true c50
                      clear c50
                      obtain ⟨y576, hy576⟩ : ∃ y_ : List (S56), y_ = (x8_5.set (x12_5 : Int).toNat (⟨(rd_T56 x8_5 (ji46)).f0, (rd_T56 x8_5 (ji46)).f1, (rd_T56 x8_5 (ji46)).f2, (rd_T56 x8_5 (ji46)).f3, (rd_T56 x8_5 (ji46)).f4⟩ : S56)) := ⟨_, rfl⟩
                      replace H : (beaconref16_Tell.l2 kj35 (y576.set ((ji46) : Int).toNat (⟨(rd_T56 x8_5 x12_5).f0, (rd_T56 x8_5 x12_5).f1, (rd_T56 x8_5 x12_5).f2, (rd_T56 x8_5 x12_5).f3, (rd_T56 x8_5 x12_5).f4⟩ : S56)) x11_4 ji46) = some (r1, r2) := by first | (rw [hy576]; with_reducible exact H) | (have H2_ := (Option.bind_some _ _).symm.trans H; rw [hy576]; with_reducible exact H2_) | (have H2_ := (Option.bind_some _ _).symm.trans H; with_reducible exact H2_) | with_reducible exact H | (rw [hy576]; exact H) | exact H
                      have Ny576 := Aside0.mk hy576
                      clear hy576
                      obtain ⟨y577, hy577⟩ : ∃ y_ : List (S56), y_ = (y576.set ((ji46) : Int).toNat (⟨(rd_T56 x8_5 x12_5).f0, (rd_T56 x8_5 x12_5).f1, (rd_T56 x8_5 x12_5).f2, (rd_T56 x8_5 x12_5).f3, (rd_T56 x8_5 x12_5).f4⟩ : S56)) := ⟨_, rfl⟩
                      replace H : (beaconref16_Tell.l2 kj35 y577 x11_4 ji46) = some (r1, r2) := by first | (rw [hy577]; with_reducible exact H) | (have H2_ := (Option.bind_some _ _).symm.trans H; rw [hy577]; with_reducible exact H2_) | (have H2_ := (Option.bind_some _ _).symm.trans H; with_reducible exact H2_) | with_reducible exact H | (rw [hy577]; exact H) | exact H
                      have Ny577 := Aside0.mk hy577
                      clear hy577
                      have H' := Aside0.mk H
                      clear H
                      try go_wp2
                      have n0_ := Aside0.mk (Kd.R_drew HO_8.out)
                      have n1_ := Aside0.mk (blk_drew BK560.out)
                      have n2_ := Aside0.mk (below_drew1 HB.out)
                      clear HO_8
                      clear BK560
                      clear HB
                      have HO_8 := n0_
                      have BK560 := n1_
                      have HB := n2_
                      clear n0_ n1_ n2_
                      have p574 : 0 ≤ ((ji46) : Int) := of_decide_eq_true (by first | (with_reducible assumption) | assumption)
                      have q574 : (ji46) < (x8_5.length : Int) := of_decide_eq_true (by first | (with_reducible assumption) | assumption)
                      obtain ⟨ad574, e574, hx574_0, hx574_1, hx574_2, hx574_3, hx574_4⟩ := at_T56 (Kd.R_reads' HO_8.out).2.2 (ji46) p574 q574
                      cases e574
                      replace p574 := eq_true p574
                      replace q574 := eq_true q574
                      have p575 : 0 ≤ (x12_5 : Int) := of_decide_eq_true (by first | (with_reducible assumption) | assumption)
                      have q575 : x12_5 < (x8_5.length : Int) := of_decide_eq_true (by first | (with_reducible assumption) | assumption)
                      obtain ⟨ad575, e575, hx575_0, hx575_1, hx575_2, hx575_3, hx575_4⟩ := at_T56 (Kd.R_reads' HO_8.out).2.2 x12_5 p575 q575
                      obtain rfl : ad574 = ad575 := (by injection e575)
                      replace p575 := eq_true p575
                      replace q575 := eq_true q575
                      have p51 : 0 ≤ (x12_5 : Int) := of_decide_eq_true (by first | (with_reducible assumption) | assumption)
                      have q51 : (x12_5 : Int) < ((x8_5.length : Int) : Int) := of_decide_eq_true (by first | (with_reducible assumption) | assumption)
                      obtain ⟨go51, co51, eo51, gb51, gl51, cl51, HG51⟩ := Kd.R_form HO_8.out (by omega)
                      (first | cases eo51 | (injection eo51 with ea_ en_ ec_; (first | subst ea_ | (injection ea_ with ea_; subst ea_)); subst ec_; clear en_))
                      have GB51 := Aside0.mk gb51
                      have GG51 := Aside0.mk HG51
                      clear gb51 gl51 HG51
                      (first | simp only [add_plain] at hx574_0 | skip)
                      (first | simp only [add_plain] at hx574_1 | skip)
                      (first | simp only [add_plain] at hx574_2 | skip)
                      (first | simp only [add_plain] at hx574_3 | skip)
                      (first | simp only [add_plain] at hx574_4 | skip)
                      (first | simp only [add_plain] at hx575_0 | skip)
                      (first | simp only [add_plain] at hx575_1 | skip)
                      (first | simp only [add_plain] at hx575_2 | skip)
                      (first | simp only [add_plain] at hx575_3 | skip)
                      (first | simp only [add_plain] at hx575_4 | skip)
                      obtain ⟨ce51, hcl51, hM51, hcc51, hfr51⟩ := Kd.R_elem HO_8.out z56 (x12_5 : Int) p51 q51
                      obtain rfl := k56_openM hM51
                      have hx51_0 : World.cell? _ ⟨go51, (x12_5 : Int).toNat * 5, none⟩ = some (.int .i64 ((rd_T56 x8_5 x12_5).f0)) := hcc51 0 _ rfl
                      have hx51_1 : World.cell? _ ⟨go51, (x12_5 : Int).toNat * 5 + 1, none⟩ = some (.int .i64 ((rd_T56 x8_5 x12_5).f1)) := hcc51 1 _ rfl
                      have hx51_2 : World.cell? _ ⟨go51, (x12_5 : Int).toNat * 5 + 2, none⟩ = some (.float .f64 ((rd_T56 x8_5 x12_5).f2)) := hcc51 2 _ rfl
                      have hx51_3 : World.cell? _ ⟨go51, (x12_5 : Int).toNat * 5 + 3, none⟩ = some (.float .f64 ((rd_T56 x8_5 x12_5).f3)) := hcc51 3 _ rfl
                      have hx51_4 : World.cell? _ ⟨go51, (x12_5 : Int).toNat * 5 + 4, none⟩ = some (.int .i64 ((rd_T56 x8_5 x12_5).f4)) := hcc51 4 _ rfl
                      have hf51_0 : World.frozen? _ ⟨go51, (x12_5 : Int).toNat * 5, none⟩ = false := hfr51 0
                      have hf51_1 : World.frozen? _ ⟨go51, (x12_5 : Int).toNat * 5 + 1, none⟩ = false := hfr51 1
                      have hf51_2 : World.frozen? _ ⟨go51, (x12_5 : Int).toNat * 5 + 2, none⟩ = false := hfr51 2
                      have hf51_3 : World.frozen? _ ⟨go51, (x12_5 : Int).toNat * 5 + 3, none⟩ = false := hfr51 3
                      have hf51_4 : World.frozen? _ ⟨go51, (x12_5 : Int).toNat * 5 + 4, none⟩ = false := hfr51 4
                      clear hcl51 hcc51 hfr51 hM51
                      replace p51 := eq_true p51
                      replace q51 := eq_true q51
                      obtain ⟨ce54, hcl54, hM54, hcc54, hfr54⟩ := Kd.R_elem HO_8.out z56 (x12_5 : Int) (of_decide_eq_true (by first | (with_reducible assumption) | assumption)) (by have h_ : (x12_5 : Int) < ((x8_5.length : Int) : Int) := of_decide_eq_true (by first | (with_reducible assumption) | assumption); first | exact h_ | (have e_ := (Kd.R_reads' HO_8.out).1; omega) | simpa using h_)
                      obtain rfl := k56_openM hM54
                      have HP54 := (Kd.R_seg HO_8.out (x12_5 : Int) (of_decide_eq_true (by first | (with_reducible assumption) | assumption)) (by have h_ : (x12_5 : Int) < ((x8_5.length : Int) : Int) := of_decide_eq_true (by first | (with_reducible assumption) | assumption); first | exact h_ | (have e_ := (Kd.R_reads' HO_8.out).1; omega) | simpa using h_) (seg := [.int .i64 ((rd_T56 x8_5 (ji46)).f0), .int .i64 ((rd_T56 x8_5 (ji46)).f1), .float .f64 ((rd_T56 x8_5 (ji46)).f2), .float .f64 ((rd_T56 x8_5 (ji46)).f3), .int .i64 ((rd_T56 x8_5 (ji46)).f4)]) (j := 0) hcl54 hcc54 (show 5 ≤ 5 from by decide) (x' := (⟨(rd_T56 x8_5 (ji46)).f0, (rd_T56 x8_5 (ji46)).f1, (rd_T56 x8_5 (ji46)).f2, (rd_T56 x8_5 (ji46)).f3, (rd_T56 x8_5 (ji46)).f4⟩ : S56)) (k56_mkM _ _ _ (⟨(rd_T56 x8_5 (ji46)).f0, (rd_T56 x8_5 (ji46)).f1, (rd_T56 x8_5 (ji46)).f2, (rd_T56 x8_5 (ji46)).f3, (rd_T56 x8_5 (ji46)).f4⟩ : S56) ) (fun _ hk => hk)).1
                      rw [← Ny576.out] at HP54
                      have HQ54 := Aside0.mk HP54
                      clear hcl54 hcc54 hfr54 hM54 HP54
                      have p52 : 0 ≤ ((ji46) : Int) := of_decide_eq_true (by first | (with_reducible assumption) | assumption)
                      have q52 : ((ji46) : Int) < ((x8_5.length : Int) : Int) := of_decide_eq_true (by first | (with_reducible assumption) | assumption)
                      obtain ⟨ce52, hcl52, hM52, hcc52, hfr52⟩ := Kd.R_elem HQ54.out z56 ((ji46) : Int) p52 q52
                      obtain rfl := k56_openM hM52
                      have hx52_0 : World.cell? _ ⟨go51, ((ji46) : Int).toNat * 5, none⟩ = some (.int .i64 ((rd_T56 y576 (ji46)).f0)) := hcc52 0 _ rfl
                      have hx52_1 : World.cell? _ ⟨go51, ((ji46) : Int).toNat * 5 + 1, none⟩ = some (.int .i64 ((rd_T56 y576 (ji46)).f1)) := hcc52 1 _ rfl
                      have hx52_2 : World.cell? _ ⟨go51, ((ji46) : Int).toNat * 5 + 2, none⟩ = some (.float .f64 ((rd_T56 y576 (ji46)).f2)) := hcc52 2 _ rfl
                      have hx52_3 : World.cell? _ ⟨go51, ((ji46) : Int).toNat * 5 + 3, none⟩ = some (.float .f64 ((rd_T56 y576 (ji46)).f3)) := hcc52 3 _ rfl
                      have hx52_4 : World.cell? _ ⟨go51, ((ji46) : Int).toNat * 5 + 4, none⟩ = some (.int .i64 ((rd_T56 y576 (ji46)).f4)) := hcc52 4 _ rfl
                      have hf52_0 : World.frozen? _ ⟨go51, ((ji46) : Int).toNat * 5, none⟩ = false := hfr52 0
                      have hf52_1 : World.frozen? _ ⟨go51, ((ji46) : Int).toNat * 5 + 1, none⟩ = false := hfr52 1
                      have hf52_2 : World.frozen? _ ⟨go51, ((ji46) : Int).toNat * 5 + 2, none⟩ = false := hfr52 2
                      have hf52_3 : World.frozen? _ ⟨go51, ((ji46) : Int).toNat * 5 + 3, none⟩ = false := hfr52 3
                      have hf52_4 : World.frozen? _ ⟨go51, ((ji46) : Int).toNat * 5 + 4, none⟩ = false := hfr52 4
                      clear hcl52 hcc52 hfr52 hM52
                      replace p52 := eq_true p52
                      replace q52 := eq_true q52
                      obtain ⟨ce55, hcl55, hM55, hcc55, hfr55⟩ := Kd.R_elem HQ54.out z56 ((ji46) : Int) (of_decide_eq_true (by first | (with_reducible assumption) | assumption)) (by have h_ : ((ji46) : Int) < ((x8_5.length : Int) : Int) := of_decide_eq_true (by first | (with_reducible assumption) | assumption); first | exact h_ | (have e_ := (Kd.R_reads' HO_8.out).1; omega) | simpa using h_)
                      obtain rfl := k56_openM hM55
                      have HP55 := (Kd.R_seg HQ54.out ((ji46) : Int) (of_decide_eq_true (by first | (with_reducible assumption) | assumption)) (by have h_ : ((ji46) : Int) < ((x8_5.length : Int) : Int) := of_decide_eq_true (by first | (with_reducible assumption) | assumption); first | exact h_ | (have e_ := (Kd.R_reads' HO_8.out).1; omega) | simpa using h_) (seg := [.int .i64 ((rd_T56 x8_5 x12_5).f0), .int .i64 ((rd_T56 x8_5 x12_5).f1), .float .f64 ((rd_T56 x8_5 x12_5).f2), .float .f64 ((rd_T56 x8_5 x12_5).f3), .int .i64 ((rd_T56 x8_5 x12_5).f4)]) (j := 0) hcl55 hcc55 (show 5 ≤ 5 from by decide) (x' := (⟨(rd_T56 x8_5 x12_5).f0, (rd_T56 x8_5 x12_5).f1, (rd_T56 x8_5 x12_5).f2, (rd_T56 x8_5 x12_5).f3, (rd_T56 x8_5 x12_5).f4⟩ : S56)) (k56_mkM _ _ _ (⟨(rd_T56 x8_5 x12_5).f0, (rd_T56 x8_5 x12_5).f1, (rd_T56 x8_5 x12_5).f2, (rd_T56 x8_5 x12_5).f3, (rd_T56 x8_5 x12_5).f4⟩ : S56) ) (fun _ hk => hk)).1
                      rw [← Ny577.out] at HP55
                      have HQ55 := Aside0.mk HP55
                      clear hcl55 hcc55 hfr55 hM55 HP55
                      refine start_ (n := 18) (S := fun w' => w'.cell? ⟨go51, (((ji46)).toNat * 5), none⟩ = some (.int .i64 ((rd_T56 x8_5 (ji46)).f0)) ∧ w'.cell? ⟨go51, (((ji46)).toNat * 5) + 1, none⟩ = some (.int .i64 ((rd_T56 x8_5 (ji46)).f1)) ∧ w'.cell? ⟨go51, (((ji46)).toNat * 5) + 2, none⟩ = some (.float .f64 ((rd_T56 x8_5 (ji46)).f2)) ∧ w'.cell? ⟨go51, (((ji46)).toNat * 5) + 3, none⟩ = some (.float .f64 ((rd_T56 x8_5 (ji46)).f3)) ∧ w'.cell? ⟨go51, (((ji46)).toNat * 5) + 4, none⟩ = some (.int .i64 ((rd_T56 x8_5 (ji46)).f4)) ∧ w'.cell? ⟨go51, ((x12_5).toNat * 5), none⟩ = some (.int .i64 ((rd_T56 x8_5 x12_5).f0)) ∧ w'.cell? ⟨go51, ((x12_5).toNat * 5) + 1, none⟩ = some (.int .i64 ((rd_T56 x8_5 x12_5).f1)) ∧ w'.cell? ⟨go51, ((x12_5).toNat * 5) + 2, none⟩ = some (.float .f64 ((rd_T56 x8_5 x12_5).f2)) ∧ w'.cell? ⟨go51, ((x12_5).toNat * 5) + 3, none⟩ = some (.float .f64 ((rd_T56 x8_5 x12_5).f3)) ∧ w'.cell? ⟨go51, ((x12_5).toNat * 5) + 4, none⟩ = some (.int .i64 ((rd_T56 x8_5 x12_5).f4))) (ds := [15, 17]) (bz 18 0) (by kernel_rfl) rfl rfl ⟨hx574_0, hx574_1, hx574_2, hx574_3, hx574_4, hx575_0, hx575_1, hx575_2, hx575_3, hx575_4⟩ (fun hHeld => ?_); refine with_tabW beaconref16_Tell.tab20 beaconref16_Tell.bits20 (fun HT_ HW_ => ?_)
                      generalize wc.drew = w53 at HO_8 BK560 HB GG51 HQ54 HQ55 hf51_0 hf51_1 hf51_2 hf51_3 hf51_4 hf52_0 hf52_1 hf52_2 hf52_3 hf52_4 hx51_0 hx51_1 hx51_2 hx51_3 hx51_4 hx52_0 hx52_1 hx52_2 hx52_3 hx52_4 hx574_0 hx574_1 hx574_2 hx574_3 hx574_4 hx575_0 hx575_1 hx575_2 hx575_3 hx575_4 hHeld ⊢
                      refine pu2 0 (some 89) (bz 18 1) ?_
                      refine pu2 1 (some 90) (bz 18 3) ?_
                      refine pu2 2 (some 91) (bz 18 7) ?_
                      refine pu2 3 (some 92) (bz 18 15) ?_
                      refine pu2 4 (some 93) (bz 18 31) ?_
                      refine pu2 5 (some 94) (bz 18 63) ?_
                      refine pu2 6 (some 95) (bz 18 127) ?_
                      refine pu2 7 (some 96) (bz 18 255) ?_
                      refine pu2 8 (some 97) (bz 18 511) ?_
                      refine pu2 10 (some 99) (bz 18 1535) ?_
                      refine pu2 11 (some 100) (bz 18 3583) ?_
                      refine pu2 12 (some 101) (bz 18 7679) ?_
                      refine tk2 9 (some 98) (bz 18 8191) ?_
                      refine tk2 13 (some 102) (bz 18 16383) ?_
                      refine pu2 14 (some 103) (bz 18 32767) ?_
                      refine last_ (i := 15) (N := none) (bz 18 65535) rfl rfl (one_of HT_.out (by kernel_rfl)) (by decide) (fun K hK => ?_)
                      refine skip_ (w1 := ?_) (by rfl) rfl ?_ ?_
                      rotate_left
                      ·go_simp
                       rfl
                      refine hK.out _ _ ?_
                      clear hK K
                      refine pu2 16 (some 104) (bz 18 131071) ?_
                      have hne_ : ¬ ((x12_5 : Int).toNat = (ji46 : Int).toNat) := by have h1 := of_eq_true p51; have h2 := of_eq_true p52; have h3 := hji46; unfold wrap64 at h3; omega
                      have hne2_ : ¬ ((ji46 : Int).toNat = (x12_5 : Int).toNat) := fun e_ => hne_ e_.symm
                      simp only [World.frozen?_setCells] at hf52_0 hf52_1 hf52_2 hf52_3 hf52_4
                      refine last_ (i := 17) (N := none) (bz 18 262143) rfl rfl (one_of HT_.out (by kernel_rfl)) (by decide) (fun K hK => ?_)
                      refine skip_ (w1 := ?_) (by rfl) rfl ?_ ?_
                      rotate_left
                      ·go_simp
                       rfl
                      refine hK.out _ _ ?_
                      clear hK K
                      refine done_ (done_of HT_.out (by kernel_rfl)) ?_
                      try go_wp2
                      (try simp only [← hl8_5])
                      go_roundg kj35
                      case measure => have := HJ5.out; have := HJ16.out; have := HK3.out; have := HK4.out; have := HK5.out; have := HJ35.out; omega
                      case rel => exact ⟨(y577), (ji46), (by first | rfl | (simp; done) | (simp only [← hji46] <;> (first | rfl | simp)) | (simp [*]; done)), H', ⟨by have := HJ5.out; have := HJ16.out; have := HK3.out; have := HK4.out; have := HK5.out; have := HJ35.out; omega⟩, ⟨by (try simp only [hl8_5]); (with_reducible repeat (first | apply Kd.R_alloc | apply Kd.R_drewN | apply Kd.R_drew)); exact HQ55.out⟩, ⟨by (try simp only [hl8_5]); (with_reducible repeat (first | refine blk_drewN ?_ _ | refine blk_drew ?_ | refine blk_alloc ?_ _)); refine blk_far ?_ (by have h_ := Kd.R_ne HO_8.out BK560.out (by decide); intro e_; exact h_ (by rw [e_]; rfl)) _; (with_reducible repeat (first | refine blk_drewN ?_ _ | refine blk_drew ?_ | refine blk_alloc ?_ _)); refine blk_far ?_ (by have h_ := Kd.R_ne HO_8.out BK560.out (by decide); intro e_; exact h_ (by rw [e_]; rfl)) _; (with_reducible repeat (first | refine blk_drewN ?_ _ | refine blk_drew ?_ | refine blk_alloc ?_ _)); refine blk_far ?_ (by have h_ := Kd.R_ne HO_8.out BK560.out (by decide); intro e_; exact h_ (by rw [e_]; rfl)) _; (with_reducible repeat (first | refine blk_drewN ?_ _ | refine blk_drew ?_ | refine blk_alloc ?_ _)); refine blk_far ?_ (by have h_ := Kd.R_ne HO_8.out BK560.out (by decide); intro e_; exact h_ (by rw [e_]; rfl)) _; (with_reducible repeat (first | refine blk_drewN ?_ _ | refine blk_drew ?_ | refine blk_alloc ?_ _)); refine blk_far ?_ (by have h_ := Kd.R_ne HO_8.out BK560.out (by decide); intro e_; exact h_ (by rw [e_]; rfl)) _; (with_reducible repeat (first | refine blk_drewN ?_ _ | refine blk_drew ?_ | refine blk_alloc ?_ _)); refine blk_far ?_ (by have h_ := Kd.R_ne HO_8.out BK560.out (by decide); intro e_; exact h_ (by rw [e_]; rfl)) _; (with_reducible repeat (first | refine blk_drewN ?_ _ | refine blk_drew ?_ | refine blk_alloc ?_ _)); refine blk_far ?_ (by have h_ := Kd.R_ne HO_8.out BK560.out (by decide); intro e_; exact h_ (by rw [e_]; rfl)) _; (with_reducible repeat (first | refine blk_drewN ?_ _ | refine blk_drew ?_ | refine blk_alloc ?_ _)); refine blk_far ?_ (by have h_ := Kd.R_ne HO_8.out BK560.out (by decide); intro e_; exact h_ (by rw [e_]; rfl)) _; (with_reducible repeat (first | refine blk_drewN ?_ _ | refine blk_drew ?_ | refine blk_alloc ?_ _)); refine blk_far ?_ (by have h_ := Kd.R_ne HO_8.out BK560.out (by decide); intro e_; exact h_ (by rw [e_]; rfl)) _; (with_reducible repeat (first | refine blk_drewN ?_ _ | refine blk_drew ?_ | refine blk_alloc ?_ _)); refine blk_far ?_ (by have h_ := Kd.R_ne HO_8.out BK560.out (by decide); intro e_; exact h_ (by rw [e_]; rfl)) _; (with_reducible repeat (first | refine blk_drewN ?_ _ | refine blk_drew ?_ | refine blk_alloc ?_ _)); exact BK560.out⟩, ⟨by repeat (first | (with_reducible first | exact HB.out | apply below_alloc | apply pw_below_drewN | apply below_drew1 | refine below_set ?_ GB51.out | refine below_set ?_ GB51.out | refine below_set ?_ GB51.out | refine below_set ?_ GB51.out | refine below_set ?_ GB51.out | refine below_set ?_ GB51.out | refine below_set ?_ GB51.out | refine below_set ?_ GB51.out | refine below_set ?_ GB51.out | refine below_set ?_ GB51.out | refine below_set ?_ GE560.out) | exact HB.out)⟩⟩
                     ·rw [if_neg c50] at H
                      exact absurd H (by simp)
                    ·rw [if_neg c49] at H
                     exact absurd H (by simp)
                   ·rw [if_neg c48] at H
                    exact absurd H (by simp)
                  ·rw [if_neg c47] at H
                   exact absurd H (by simp)
                 ·obtain rfl := bf_ c45
                  have H1 : (beaconref16_Tell.l1 kj35 x8_5 (wrap64 (x11_4 + 1))) = some (r1, r2) := by rw [if_neg (show ¬ (false = true) by decide)] at H; exact H
                  clear H
                  have H := H1
                  clear H1
                  have H' := Aside0.mk H
                  clear H
                  go_wp2
                  (try simp only [← hl8_5])
                  go_roundg kj35
                  case measure => have := HJ5.out; have := HJ16.out; have := HK3.out; have := HK4.out; have := HK5.out; have := HJ35.out; omega
                  case rel => exact ⟨(x8_5), (wrap64 (x11_4 + 1)), fz, H', ⟨by have := HJ5.out; have := HJ16.out; have := HK3.out; have := HK4.out; have := HK5.out; have := HJ35.out; omega⟩, ⟨by (try simp only [hl8_5]); (with_reducible repeat (first | apply Kd.R_alloc | apply Kd.R_drewN | apply Kd.R_drew)); exact HO_8.out⟩, ⟨by (try simp only [hl8_5]); (with_reducible repeat (first | refine blk_drewN ?_ _ | refine blk_drew ?_ | refine blk_alloc ?_ _)); exact BK560.out⟩, ⟨fb1 GE560⟩⟩
            ·rw [if_neg c34] at H
             have c34b0 := decide_eq_false c34
             clear c34
             simp only [Option.some.injEq, Prod.mk.injEq] at H
             obtain ⟨rfl, rfl⟩ := H
             obtain ⟨Ao56, co56, eo56⟩ := Kd.R_slice HO_8.out
             subst eo56
             go_wp2
             go_ret2
             exact ⟨_, by first | rfl | (simp [errW_none, errW_some] <;> rfl) | (simp [*, errW_none, errW_some] <;> rfl), by (with_reducible repeat (first | apply Kd.R_alloc | apply Kd.R_drewN | apply Kd.R_drew)); exact HO_8.out, fb1 GE560⟩
 ·obtain rfl := bf_ c5
  have H1 : (some (([] : List (S56)), 20)) = some (r1, r2) := by rw [if_neg (show ¬ (false = true) by decide)] at H; exact H
  clear H
  have H := H1
  clear H1
  simp only [Option.some.injEq, Prod.mk.injEq] at H
  obtain ⟨rfl, rfl⟩ := H
  go_enter Try.func21, Try.ntmps21
  go_wp2_with (first | ((with_reducible refine gate_dst (N := 4) rfl ?_); refine bx_ (N := 4) #[.int .i64 a1_0, .int .i64 a1_1, .float .f64 a1_2] 34 ⟨fb⟩ ?_; clear HB; intro gb560 w57 HB BK560 GE560; have GW560 := GE560) | ((with_reducible refine gate_callee (f := 59) rfl ?_); refine gl_ (some 14) Try.func59 #[.int .i64 a0] ?_; (with_reducible refine (beaconref16_number.calls k a0 false _ A4.out).mono ?_); rintro e w' ⟨rfl, ⟨nd, rfl⟩⟩; refine ⟨_, rfl, ?_⟩))
  go_ret2
  exact ⟨_, by first | rfl | (simp [errW_none, errW_some] <;> rfl) | (simp [*, errW_none, errW_some] <;> rfl), by first | exact Kd.R_nil _ _ _ _ _ | exact Kd.N_nil _ _ _ _ _ | exact Kd.V_nil _ _ _ _ _ | exact Kd.Q_nil _ _ _ _ _ | exact Kd.S_nil _ _ _ _ _, fb1 GE560⟩

end Go.Proofs.Ytjkhckbfkinheaa.GAa
