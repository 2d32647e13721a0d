-- written by a program of this session (wip/pp): see NOTES.md
import Derived.Test.YtjkhckbfkinheaaGAax0
import Derived.Test.YtjkhckbfkinheaaGAax2
import Derived.Test.YtjkhckbfkinheaaGAax9
namespace Go.Proofs.Ytjkhckbfkinheaa.GAa
open Go.RowKit Go.Proofs.YtjkhckbfkinheaaW.PrintWords Go.Proofs.YtjkhckbfkinheaaW.PrintLast Go.Proofs.YtjkhckbfkinheaaW.PrintMore
attribute [local go_sem] max2_int min2_int max_two min_two max_three min_three max_four min_four   -- for this text's walks alone
attribute [local go_sem high] binOp_flss binOp_fgtr binOp_fleq binOp_fgeq binOp_feql binOp_fneq run_fadd run_fsub run_fmul run_fquo unary_fneg run_ftoint run_fofint run_feqIn ext_bits ext_frombits ext_trunc
set_option linter.unusedVariables false
set_option linter.unusedSimpArgs false

/-! ### delta_list: function 107 -/
def delta_list.l0 : Nat → List (S56) → List (S56) → Int → Int → Option (Bool)
 | 0, _, _, _, _ => none
 | k + 1, x0, x5, x6, x7 => if x7 < x6 then (if 0 ≤ x7 then (if x7 < (x5.length : Int) then ((math_IsInf.f ((rd_T56 x5 x7).f2) 1).bind fun t157 => (if t157 = true then (some false) else (delta_list.l0 k x0 x5 x6 (wrap64 (x7 + 1))))) else (none)) else (none)) else ((delta_told.f k x0).bind fun t158 => (some t158))
def delta_list.f (k : Nat) (l0 : List (S56)) : Option (Bool) := delta_list.l0 k l0 l0 (l0.length : Int) 0
theorem delta_list.mono_l : ∀ k, (∀ y0 y1 y2 y3, LeO (delta_list.l0 k y0 y1 y2 y3) (delta_list.l0 (k + 1) y0 y1 y2 y3))
 | 0 => fun _ _ _ _ r h => by simp [delta_list.l0] at h
 | k + 1 => by
  have ih0 := delta_list.mono_l k
  ·intro y0 y1 y2 y3
   unfold delta_list.l0
   repeat' first
   | (with_reducible exact ih0 _ _ _ _)
   | (with_reducible exact delta_told.mono _ _)
   | (with_reducible exact LeO.refl _)
   | (with_reducible exact LeO.none _)
   | (with_reducible refine LeO.ite ?_ ?_)
   | (with_reducible refine LeO.bind ?_ (fun _ => ?_))
   | exact ih0 _ _ _ _
   | exact delta_told.mono _ _
   | exact LeO.none _
   | refine LeO.ite ?_ ?_
   | refine LeO.bind ?_ (fun _ => ?_)
theorem delta_list.mono : ∀ a0 k, LeO (delta_list.f k a0) (delta_list.f (k + 1) a0) := by
 intro a0 k
 have ih0 := delta_list.mono_l k
 unfold delta_list.f
 repeat' first
   | (with_reducible exact ih0 _ _ _ _)
   | (with_reducible exact delta_told.mono _ _)
   | (with_reducible exact LeO.refl _)
   | (with_reducible exact LeO.none _)
   | (with_reducible refine LeO.ite ?_ ?_)
   | (with_reducible refine LeO.bind ?_ (fun _ => ?_))
   | exact ih0 _ _ _ _
   | exact delta_told.mono _ _
   | exact LeO.none _
   | refine LeO.ite ?_ ?_
   | refine LeO.bind ?_ (fun _ => ?_)
set_option maxHeartbeats 8000000 in
set_option maxRecDepth 100000 in
theorem delta_list.calls (k : Nat) (A0 : Option Addr) (c0 : Nat) (l0 : List (S56)) (r : Bool) (w : World) (hr0 : Kd.C k56 w A0 l0.length l0) (hc0 : l0.length ≤ c0) (h : delta_list.f k l0 = some r) :
  Calls Try.prog 107 #[.slice A0 l0.length c0] w fun e w' => e = .returned (.bool r) ∧ Below w.heap.size w w' := by
 have hu56 := Try.underlying56
 have HR0 := Aside0.mk hr0
 have HC0 := Aside0.mk hc0
 clear hr0 hc0
 have HB := Aside0.mk (Below.refl w.heap.size w)
 have H : (delta_list.l0 k l0 l0 (l0.length : Int) 0) = some r := h
 clear h
 have H' := Aside0.mk H
 clear H
 go_enter Try.func107, Try.ntmps107
 go_wp2
 go_loopg [7] k (fun kq v7 w' => ∃ (x7_1 : Int), v7 = .int .i64 x7_1 ∧ Aside0 (delta_list.l0 kq l0 l0 (l0.length : Int) x7_1 = some r) ∧ Aside0 (kq ≤ k) ∧ Aside0 (Below w.heap.size w w'))
 case atStart => exact ⟨(0), fz, H', ⟨Nat.le_refl _⟩, ⟨fb⟩⟩
 case round =>
  clear H'
  obtain ⟨x7_1, rfl, HA, HK1, HB⟩ := hrel
  cases gk with
  | zero => exact absurd HA.out (by simp [delta_list.l0])
  | succ k1 =>
   have H := HA.out
   clear HA
   simp only [delta_list.l0] at H
   by_cases c2 : x7_1 < (l0.length : Int)
   ·rw [if_pos c2] at H
    have c2b0 := decide_eq_true c2
    clear c2
    by_cases c3 : 0 ≤ x7_1
    ·rw [if_pos c3] at H
     have c3b0 := decide_eq_true c3
     clear c3
     by_cases c4 : x7_1 < (l0.length : Int)
     ·rw [if_pos c4] at H
      have c4b0 := decide_eq_true c4
      clear c4
      replace H := bs_ H; obtain ⟨t157, A5, H⟩ := H
      by_cases c6 : t157 = true
      ·subst c6
       rw [if_pos rfl] at H
       obtain rfl := oj_ H
       have p155 : 0 ≤ (x7_1 : Int) := of_decide_eq_true (by first | (with_reducible assumption) | assumption)
       have q155 : x7_1 < (l0.length : Int) := of_decide_eq_true (by first | (with_reducible assumption) | assumption)
       obtain ⟨ad155, e155, hx155_0, hx155_1, hx155_2, hx155_3, hx155_4⟩ := at_T56 HR0.out x7_1 p155 q155
       cases e155
       replace hx155_0 := pw_cell_below HB.out hx155_0
       replace hx155_1 := pw_cell_below HB.out hx155_1
       replace hx155_2 := pw_cell_below HB.out hx155_2
       replace hx155_3 := pw_cell_below HB.out hx155_3
       replace hx155_4 := pw_cell_below HB.out hx155_4
       replace p155 := eq_true p155
       replace q155 := eq_true q155
       go_wp2_with (first | ((with_reducible refine gate_dst (N := 4) rfl ?_); refine bx_ (N := 4) #[.int .i64 0, .int .i64 0, .float .f64 0, .float .f64 0, .int .i64 0] 56 ⟨fb⟩ ?_; clear HB; intro gb156 w7 HB BK156 GE156; have GW156 := GE156; obtain ⟨hcz8_0, hcz8_1, hcz8_2, hcz8_3, hcz8_4, hfz8_0, hfz8_1, hfz8_2, hfz8_3, hfz8_4⟩ := cz5 BK156.out) | ((with_reducible refine gate_callee (f := 62) rfl ?_); refine gl_ (some 13) Try.func62 #[.float .f64 ((rd_T56 l0 x7_1).f2), .int .i64 1] ?_; (with_reducible refine (math_IsInf.calls ((rd_T56 l0 x7_1).f2) 1 true _ A5.out).mono ?_); rintro e w' ⟨rfl, ⟨nd, rfl⟩⟩; refine ⟨_, rfl, ?_⟩))
       go_ret
       exact ⟨fe, fb1 GE156⟩
      ·obtain rfl := bf_ c6
       rw [if_neg nf_] at H
       have H' := Aside0.mk H
       clear H
       have p155 : 0 ≤ (x7_1 : Int) := of_decide_eq_true (by first | (with_reducible assumption) | assumption)
       have q155 : x7_1 < (l0.length : Int) := of_decide_eq_true (by first | (with_reducible assumption) | assumption)
       obtain ⟨ad155, e155, hx155_0, hx155_1, hx155_2, hx155_3, hx155_4⟩ := at_T56 HR0.out x7_1 p155 q155
       cases e155
       replace hx155_0 := pw_cell_below HB.out hx155_0
       replace hx155_1 := pw_cell_below HB.out hx155_1
       replace hx155_2 := pw_cell_below HB.out hx155_2
       replace hx155_3 := pw_cell_below HB.out hx155_3
       replace hx155_4 := pw_cell_below HB.out hx155_4
       replace p155 := eq_true p155
       replace q155 := eq_true q155
       go_wp2_with (first | ((with_reducible refine gate_dst (N := 4) rfl ?_); refine bx_ (N := 4) #[.int .i64 0, .int .i64 0, .float .f64 0, .float .f64 0, .int .i64 0] 56 ⟨fb⟩ ?_; clear HB; intro gb156 w9 HB BK156 GE156; have GW156 := GE156; obtain ⟨hcz10_0, hcz10_1, hcz10_2, hcz10_3, hcz10_4, hfz10_0, hfz10_1, hfz10_2, hfz10_3, hfz10_4⟩ := cz5 BK156.out) | ((with_reducible refine gate_callee (f := 62) rfl ?_); refine gl_ (some 13) Try.func62 #[.float .f64 ((rd_T56 l0 x7_1).f2), .int .i64 1] ?_; (with_reducible refine (math_IsInf.calls ((rd_T56 l0 x7_1).f2) 1 false _ A5.out).mono ?_); rintro e w' ⟨rfl, ⟨nd, rfl⟩⟩; refine ⟨_, rfl, ?_⟩))
       go_roundg k1
       case measure => have := HK1.out; omega
       case rel => exact ⟨(wrap64 (x7_1 + 1)), fz, H', ⟨by have := HK1.out; omega⟩, ⟨fb1 GE156⟩⟩
     ·rw [if_neg c4] at H
      exact absurd H (by simp)
    ·rw [if_neg c3] at H
     exact absurd H (by simp)
   ·rw [if_neg c2] at H
    have c2b0 := decide_eq_false c2
    clear c2
    replace H := bs_ H; obtain ⟨t158, A11, H⟩ := H
    obtain rfl := oj_ H
    go_wp2_with (first | ((with_reducible refine gate_callee (f := 137) rfl ?_); refine gl_ (some 16) Try.func137 #[.slice A0 l0.length c0] ?_; (with_reducible refine (delta_told.calls k1 _ _ l0 t158 _ ?side1 ?side2 A11.out).mono ?_); (case side1 => repeat (first | exact (Kd.C_below HR0.out HB.out) | (with_reducible refine Kd.C_alloc ?_ _) | (with_reducible refine Kd.C_drewN ?_ _) | (with_reducible refine Kd.C_drew ?_))); (case side2 => exact HC0.out); rintro e w12 ⟨rfl, hb⟩; refine ⟨_, rfl, ?_⟩; replace HB := Aside0.mk (below_step fb hb); (try clear hb)))
    go_ret
    exact ⟨fe, fb⟩

/-! ### math_Inf: function 40 -/
def math_Inf.j0 : Nat → Int → Option (Nat)
 | 0, _ => none
 | k + 1, x3 => some ((x3 : Int).toNat)
def math_Inf.f (k : Nat) (a0 : Int) : Option (Nat) := if a0 ≥ 0 then (math_Inf.j0 k 9218868437227405312) else (math_Inf.j0 k 18442240474082181120)
set_option maxHeartbeats 8000000 in
set_option maxRecDepth 100000 in
theorem math_Inf.calls (k : Nat) (a0 : Int) (r : Nat) (w : World) (h : math_Inf.f k a0 = some r) :
  Calls Try.prog 40 #[.int .i64 a0] w fun e w' => e = .returned (.float .f64 r) ∧ Drawn0 w w' := by
 have H : (if a0 ≥ 0 then (math_Inf.j0 k 9218868437227405312) else (math_Inf.j0 k 18442240474082181120)) = some r := h
 clear h
 have HC2 := Aside0.mk H
 clear H
 go_enter Try.func40, Try.ntmps40
 go_upto_if 5 with (fail)
 go_cut [3] (fun v3 wc => ∃ (kq : Nat) (x3_1 : Int), v3 = .int .u64 x3_1 ∧ Aside0 (math_Inf.j0 kq x3_1 = some r) ∧ Aside0 (kq ≤ k) ∧ Drawn0 w wc)
 case first =>
  have H := HC2.out
  clear HC2
  by_cases c3 : a0 ≥ 0
  ·rw [if_pos c3] at H
   have c3b0 := decide_eq_true c3
   clear c3
   (first | rw [c3b0] | (simp only [i64_w, i32_w]; rw [c3b0]) | skip)
   have H' := Aside0.mk H
   clear H
   go_wp2
   go_meet
   case rel => exact ⟨_, (9218868437227405312), fz, H', ⟨fl⟩, fd⟩
  ·rw [if_neg c3] at H
   have c3b0 := decide_eq_false c3
   clear c3
   (first | rw [c3b0] | (simp only [i64_w, i32_w]; rw [c3b0]) | skip)
   have H' := Aside0.mk H
   clear H
   go_wp2
   go_meet
   case rel => exact ⟨_, (18442240474082181120), fz, H', ⟨fl⟩, fd⟩
 case rest =>
  clear HC2
  obtain ⟨kq, x3_1, rfl, HA, HJ1, ⟨mc1, rfl⟩⟩ := hcut
  cases kq with
  | zero => exact absurd HA.out (by simp [math_Inf.j0])
  | succ kj1 =>
   have H := HA.out
   clear HA
   simp only [math_Inf.j0] at H
   obtain rfl := oj_ H
   go_wp2
   go_ret
   exact ⟨fz, fd⟩

end Go.Proofs.Ytjkhckbfkinheaa.GAa
