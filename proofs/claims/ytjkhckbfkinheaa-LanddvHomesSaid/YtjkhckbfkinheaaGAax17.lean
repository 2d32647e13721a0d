-- written by a program of this session (wip/pp): see NOTES.md
import Derived.Test.YtjkhckbfkinheaaGAax0
import Derived.Test.YtjkhckbfkinheaaGAax2
namespace Go.Proofs.Ytjkhckbfkinheaa.GAa
open Go.RowKit Go.Proofs.YtjkhckbfkinheaaW.PrintWords Go.Proofs.YtjkhckbfkinheaaW.PrintLast Go.Proofs.YtjkhckbfkinheaaW.PrintMore
attribute [local go_sem] max2_int min2_int max_two min_two max_three min_three max_four min_four   -- for this text's walks alone
attribute [local go_sem high] binOp_flss binOp_fgtr binOp_fleq binOp_fgeq binOp_feql binOp_fneq run_fadd run_fsub run_fmul run_fquo unary_fneg run_ftoint run_fofint run_feqIn ext_bits ext_frombits ext_trunc
set_option linter.unusedVariables false
set_option linter.unusedSimpArgs false

/-! ### beaconref15_Entries: function 27 -/
def beaconref15_Entries.l0 : Nat → List (S58) → List (S58) → Int → Option ((List (S58)))
 | 0, _, _, _ => none
 | k + 1, x0, x3, x4 => if x4 < (x0.length : Int) then (if 0 ≤ x4 then (if x3.length < 2932031007402 then (beaconref15_Entries.l0 k x0 (x3 ++ [(⟨(rd_T58 x0 x4).f0, (rd_T58 x0 x4).f1, (rd_T58 x0 x4).f2, (rd_T58 x0 x4).f3, (rd_T58 x0 x4).f4, (rd_T58 x0 x4).f5⟩ : S58)]) (wrap64 (x4 + 1))) else (none)) else (none)) else (some x3)
def beaconref15_Entries.f (k : Nat) (l0 : List (S58)) : Option ((List (S58))) := beaconref15_Entries.l0 k l0 (([] : List (S58))) 0
set_option maxHeartbeats 8000000 in
set_option maxRecDepth 100000 in
theorem beaconref15_Entries.calls (k : Nat) (A0 : Option Addr) (c0 : Nat) (l0 : List (S58)) (r : List (S58)) (w : World) (hr0 : Kd.C k58 w A0 l0.length l0) (hc0 : l0.length ≤ c0) (h : beaconref15_Entries.f k l0 = some r) :
  Calls Try.prog 27 #[.slice A0 l0.length c0] w fun e w' => ∃ v0_ : Value, e = .returned (v0_) ∧ Kd.R k58 58 w' w.heap.size (fun _ => True) v0_ r ∧ Below w.heap.size w w' := by
 have hu58 := Try.underlying58
 have HR0 := Aside0.mk hr0
 have HC0 := Aside0.mk hc0
 clear hr0 hc0
 have HB := Aside0.mk (Below.refl w.heap.size w)
 have H : (beaconref15_Entries.l0 k l0 (([] : List (S58))) 0) = some r := h
 clear h
 obtain ⟨y211, hy211⟩ : ∃ y_ : List (S58), y_ = (([] : List (S58))) := ⟨_, rfl⟩
 replace H : (beaconref15_Entries.l0 k l0 y211 0) = some r := by first | (rw [hy211]; with_reducible exact H) | (have H2_ := (Option.bind_some _ _).symm.trans H; rw [hy211]; with_reducible exact H2_) | (have H2_ := (Option.bind_some _ _).symm.trans H; with_reducible exact H2_) | with_reducible exact H | (rw [hy211]; exact H) | exact H
 have Ny211 := Aside0.mk hy211
 clear hy211
 have H' := Aside0.mk H
 clear H
 go_enter Try.func27, Try.ntmps27
 go_wp2_with (first | ((with_reducible refine gate_dst (N := 5) rfl ?_); refine Kd.R_lit k58 _ 58 ?hg (N := 5) ?hd (xs := ([] : List (S58))) (inner := []) (ok := fun _ => True) (okp := fun _ => True) ?hr ?hp (fun _ hk => hk) trivial (Below.refl _ _) (Nat.le_refl _) (by simp) ?_; (case hd => rfl); (case hg => rfl); (case hr => first | (go_simp; done) | (go_simp; rfl)); (case hp => exact (Reps.none _ _)); intro v212 w2 ho3 hb hg_ hnew_; clear hg_ hnew_; (first | rw [← Ny211.out] at ho3 | (simp only [Int.reduceToNat] at ho3; rw [← Ny211.out] at ho3)); have n0_ := Aside0.mk (Kd.R_lower ho3 (below_size fb)); have n1_ := Aside0.mk (below_step fb hb); clear HB; have HO213 := n0_; have HB := n1_; clear n0_ n1_; clear hb ho3))
 go_loopg [3, 4] k (fun kq v3 v4 w' => ∃ (x3_1 : List (S58)) (x4_1 : Int), v4 = .int .i64 x4_1 ∧ Aside0 (beaconref15_Entries.l0 kq l0 x3_1 x4_1 = some r) ∧ Aside0 (kq ≤ k) ∧ Aside0 (Kd.R k58 58 w' w.heap.size (fun _ => True) v3 x3_1) ∧ Aside0 (Below w.heap.size w w'))
 case atStart => exact ⟨(y211), (0), fz, H', ⟨Nat.le_refl _⟩, ⟨by (with_reducible repeat (first | apply Kd.R_alloc | apply Kd.R_drewN | apply Kd.R_drew)); exact HO213.out⟩, ⟨fb⟩⟩
 case round =>
  clear H'
  obtain ⟨x3_1, x4_1, rfl, HA, HK1, HO_3, HB⟩ := hrel
  cases gk with
  | zero => exact absurd HA.out (by simp [beaconref15_Entries.l0])
  | succ k1 =>
   have H := HA.out
   clear HA
   simp only [beaconref15_Entries.l0] at H
   by_cases c4 : x4_1 < (l0.length : Int)
   ·rw [if_pos c4] at H
    have c4b0 := decide_eq_true c4
    clear c4
    by_cases c5 : 0 ≤ x4_1
    ·rw [if_pos c5] at H
     have c5b0 := decide_eq_true c5
     clear c5
     by_cases c6 : x3_1.length < 2932031007402
     ·rw [if_pos c6] at H
      have LMc6 := Aside0.mk c6
      clear c6
      obtain ⟨y215, hy215⟩ : ∃ y_ : List (S58), y_ = (x3_1 ++ [(⟨(rd_T58 l0 x4_1).f0, (rd_T58 l0 x4_1).f1, (rd_T58 l0 x4_1).f2, (rd_T58 l0 x4_1).f3, (rd_T58 l0 x4_1).f4, (rd_T58 l0 x4_1).f5⟩ : S58)]) := ⟨_, rfl⟩
      replace H : (beaconref15_Entries.l0 k1 l0 y215 (wrap64 (x4_1 + 1))) = some r := by first | (rw [hy215]; with_reducible exact H) | (have H2_ := (Option.bind_some _ _).symm.trans H; rw [hy215]; with_reducible exact H2_) | (have H2_ := (Option.bind_some _ _).symm.trans H; with_reducible exact H2_) | with_reducible exact H | (rw [hy215]; exact H) | exact H
      have Ny215 := Aside0.mk hy215
      clear hy215
      have H' := Aside0.mk H
      clear H
      have p214 : 0 ≤ (x4_1 : Int) := of_decide_eq_true (by first | (with_reducible assumption) | assumption)
      have q214 : x4_1 < (l0.length : Int) := of_decide_eq_true (by first | (with_reducible assumption) | assumption)
      obtain ⟨ad214, e214, hx214_0, hx214_1, hx214_2, hx214_3, hx214_4, hx214_5⟩ := at_T58 HR0.out x4_1 p214 q214
      cases e214
      replace hx214_0 := pw_cell_below HB.out hx214_0
      replace hx214_1 := pw_cell_below HB.out hx214_1
      replace hx214_2 := pw_cell_below HB.out hx214_2
      replace hx214_3 := pw_cell_below HB.out hx214_3
      replace hx214_4 := pw_cell_below HB.out hx214_4
      replace hx214_5 := pw_cell_below HB.out hx214_5
      replace p214 := eq_true p214
      replace q214 := eq_true q214
      go_wp2_with (first | ((with_reducible refine gate_builtin (b := .append) (xs := #[.tmp 12, .tmp 17]) rfl ?_); at_builtin; refine Kd.R_append k58 (w0 := w) w.heap.size rfl (.tmp 12) (.tmp 17) 24 58 (.agg #[(.int .i64 0), (.int .i64 0), (.float .f64 0), (.int .i64 0), (.float .f64 0), (.int .i64 0)]) 48 rfl Try.underlying24 info58 rfl (by decide) (by omega) u3 x3_1 (⟨(rd_T58 l0 x4_1).f0, (rd_T58 l0 x4_1).f1, (rd_T58 l0 x4_1).f2, (rd_T58 l0 x4_1).f3, (rd_T58 l0 x4_1).f4, (rd_T58 l0 x4_1).f5⟩ : S58) [.int .i64 ((rd_T58 l0 x4_1).f0), .int .i64 ((rd_T58 l0 x4_1).f1), .float .f64 ((rd_T58 l0 x4_1).f2), .int .i64 ((rd_T58 l0 x4_1).f3), .float .f64 ((rd_T58 l0 x4_1).f4), .int .i64 ((rd_T58 l0 x4_1).f5)] (fun _ => True) (fun _ => False) rfl rfl ?aP (fun _ hk => hk.elim) ?aF ?aO ?aB ?aS ?aL ?_; (case aP => exact k58_mkM _ _ _ (⟨(rd_T58 l0 x4_1).f0, (rd_T58 l0 x4_1).f1, (rd_T58 l0 x4_1).f2, (rd_T58 l0 x4_1).f3, (rd_T58 l0 x4_1).f4, (rd_T58 l0 x4_1).f5⟩ : S58)); (case aB => exact fb); (case aF => exact (fun _ _ => trivial)); (case aO => exact (by (with_reducible repeat (first | apply Kd.R_alloc | apply Kd.R_drewN | apply Kd.R_drew)); exact HO_3.out)); (case aS => exact (below_size fb)); (case aL => have := LMc6.out; omega); intro v216 w7 ho hb hg hat; rw [← Ny215.out] at ho; have n0_ := Aside0.mk (hb); have n1_ := Aside0.mk (ho); clear HB; clear HO_3; have HB := n0_; have HO217 := n1_; clear n0_ n1_; clear ho hb hg hat))
      go_roundg k1
      case measure => have := HK1.out; omega
      case rel => exact ⟨(y215), (wrap64 (x4_1 + 1)), fz, H', ⟨by have := HK1.out; omega⟩, ⟨by (with_reducible repeat (first | apply Kd.R_alloc | apply Kd.R_drewN | apply Kd.R_drew)); exact HO217.out⟩, ⟨fb⟩⟩
     ·rw [if_neg c6] at H
      exact absurd H (by simp)
    ·rw [if_neg c5] at H
     exact absurd H (by simp)
   ·rw [if_neg c4] at H
    have c4b0 := decide_eq_false c4
    clear c4
    obtain rfl := oj_ H
    go_wp2
    go_ret
    exact ⟨_, by first | rfl | (simp [errW_none, errW_some] <;> rfl) | (simp [*, errW_none, errW_some] <;> rfl), by (with_reducible repeat (first | apply Kd.R_alloc | apply Kd.R_drewN | apply Kd.R_drew)); exact HO_3.out, fb⟩

/-! ### beaconref02_CheckId: function 82 -/
def beaconref02_CheckId.j0 : Nat → Bool → Option (Int)
 | 0, _ => none
 | k + 1, x8 => if x8 = true then (some 20) else (some 0)
def beaconref02_CheckId.f (k : Nat) (a0 : Int) : Option (Int) := if a0 < 1 then (beaconref02_CheckId.j0 k true) else (beaconref02_CheckId.j0 k (decide (a0 > 2147483647)))
set_option maxHeartbeats 8000000 in
set_option maxRecDepth 100000 in
theorem beaconref02_CheckId.calls (k : Nat) (a0 : Int) (r : Int) (w : World) (h : beaconref02_CheckId.f k a0 = some r) :
  Calls Try.prog 82 #[.int .i64 a0] w fun e w' => e = .returned (.int .i64 r) ∧ Drawn0 w w' := by
 have H : (if a0 < 1 then (beaconref02_CheckId.j0 k true) else (beaconref02_CheckId.j0 k (decide (a0 > 2147483647)))) = some r := h
 clear h
 have HC2 := Aside0.mk H
 clear H
 go_enter Try.func82, Try.ntmps82
 go_upto_region 1 with (fail)
 go_cut [8] (fun v8 wc => ∃ (kq : Nat) (x8_1 : Bool), v8 = .bool x8_1 ∧ Aside0 (beaconref02_CheckId.j0 kq x8_1 = some r) ∧ Aside0 (kq ≤ k) ∧ Drawn0 w wc)
 case first =>
  have H := HC2.out
  clear HC2
  by_cases c3 : a0 < 1
  ·rw [if_pos c3] at H
   have c3b0 := decide_eq_true c3
   clear c3
   (first | rw [c3b0] | (simp only [i64_w, i32_w]; rw [c3b0]) | skip)
   have H' := Aside0.mk H
   clear H
   go_wp2
   go_meet
   case rel => exact ⟨_, (true), fz, H', ⟨fl⟩, fd⟩
  ·rw [if_neg c3] at H
   have c3b0 := decide_eq_false c3
   clear c3
   (first | rw [c3b0] | (simp only [i64_w, i32_w]; rw [c3b0]) | skip)
   have H' := Aside0.mk H
   clear H
   go_wp2
   go_meet
   case rel => exact ⟨_, (decide (a0 > 2147483647)), fz, H', ⟨fl⟩, fd⟩
 case rest =>
  clear HC2
  obtain ⟨kq, x8_1, rfl, HA, HJ1, ⟨mc1, rfl⟩⟩ := hcut
  cases kq with
  | zero => exact absurd HA.out (by simp [beaconref02_CheckId.j0])
  | succ kj1 =>
   have H := HA.out
   clear HA
   simp only [beaconref02_CheckId.j0] at H
   by_cases c4 : x8_1 = true
   ·subst c4
    rw [if_pos rfl] at H
    obtain rfl := oj_ H
    go_wp2
    go_ret
    exact ⟨fz, fd⟩
   ·obtain rfl := bf_ c4
    rw [if_neg nf_] at H
    obtain rfl := oj_ H
    go_wp2
    go_ret
    exact ⟨fz, fd⟩

/-! ### beaconref15_number: function 52 -/
def beaconref15_number.f (k : Nat) (a0 : Int) : Option (Bool) := (beaconref02_CheckId.f k a0).bind fun t218 => (some (t218 == 0))
set_option maxHeartbeats 8000000 in
set_option maxRecDepth 100000 in
theorem beaconref15_number.calls (k : Nat) (a0 : Int) (r : Bool) (w : World) (h : beaconref15_number.f k a0 = some r) :
  Calls Try.prog 52 #[.int .i64 a0] w fun e w' => e = .returned (.bool r) ∧ Drawn0 w w' := by
 have H : ((beaconref02_CheckId.f k a0).bind fun t218 => (some (t218 == 0))) = some r := h
 clear h
 replace H := bs_ H; obtain ⟨t218, A2, H⟩ := H
 obtain rfl := oj_ H
 go_enter Try.func52, Try.ntmps52
 go_wp2_with (first | ((with_reducible refine gate_callee (f := 82) rfl ?_); refine gl_ (some 4) Try.func82 #[.int .i64 a0] ?_; (with_reducible refine (beaconref02_CheckId.calls k a0 t218 _ A2.out).mono ?_); rintro e w' ⟨rfl, ⟨nd, rfl⟩⟩; refine ⟨_, rfl, ?_⟩))
 go_ret
 exact ⟨fz, fd⟩

/-! ### beaconref15_Far: function 67 -/
def beaconref15_Far.f (a0 : Nat) : Option (Bool) := some (fLt 9218868437227405311 a0)
set_option maxHeartbeats 8000000 in
set_option maxRecDepth 100000 in
theorem beaconref15_Far.calls (a0 : Nat) (r : Bool) (w : World) (h : beaconref15_Far.f a0 = some r) :
  Calls Try.prog 67 #[.float .f64 a0] w fun e w' => e = .returned (.bool r) ∧ Drawn0 w w' := by
 have H : (some (fLt 9218868437227405311 a0)) = some r := h
 clear h
 obtain rfl := oj_ H
 go_enter Try.func67, Try.ntmps67
 go_wp2
 go_ret
 exact ⟨fz, fd⟩

/-! ### beaconref06_Far: function 61 -/
def beaconref06_Far.j0 : Nat → Nat → Bool → Option (Bool)
 | 0, _, _ => none
 | k + 1, x0, x9 => if x9 = true then (some true) else (if (fLt 0 x0) = true then (if (fLt x0 4742290407621132288) = true then (if (fMulOk x0 4616189618054758400) = true then ((math_Trunc.f (fMul x0 4616189618054758400)).bind fun t220 => (some (fEq (fMul x0 4616189618054758400) t220))) else (none)) else (some false)) else (some false))
def beaconref06_Far.f (k : Nat) (a0 : Nat) : Option (Bool) := (math_IsInf.f a0 1).bind fun t219 => (if t219 = true then (beaconref06_Far.j0 k a0 true) else (beaconref06_Far.j0 k a0 ((a0 : Int) == 0)))
set_option maxHeartbeats 8000000 in
set_option maxRecDepth 100000 in
theorem beaconref06_Far.calls (k : Nat) (a0 : Nat) (r : Bool) (w : World) (h : beaconref06_Far.f k a0 = some r) :
  Calls Try.prog 61 #[.float .f64 a0] w fun e w' => e = .returned (.bool r) ∧ Drawn0 w w' := by
 have H : ((math_IsInf.f a0 1).bind fun t219 => (if t219 = true then (beaconref06_Far.j0 k a0 true) else (beaconref06_Far.j0 k a0 ((a0 : Int) == 0)))) = some r := h
 clear h
 have HC2 := Aside0.mk H
 clear H
 go_enter Try.func61, Try.ntmps61
 go_upto_region 1 with (fail)
 go_cut [9] (fun v9 wc => ∃ (kq : Nat) (x9_1 : Bool), v9 = .bool x9_1 ∧ Aside0 (beaconref06_Far.j0 kq a0 x9_1 = some r) ∧ Aside0 (kq ≤ k) ∧ Drawn0 w wc)
 case first =>
  have H := HC2.out
  clear HC2
  replace H := bs_ H; obtain ⟨t219, A3, H⟩ := H
  by_cases c4 : t219 = true
  ·subst c4
   rw [if_pos rfl] at H
   have H' := Aside0.mk H
   clear H
   go_wp2_with (first | ((with_reducible refine gate_callee (f := 62) rfl ?_); refine gl_ (some 4) Try.func62 #[.float .f64 a0, .int .i64 1] ?_; (with_reducible refine (math_IsInf.calls a0 1 true _ A3.out).mono ?_); rintro e w' ⟨rfl, ⟨nd, rfl⟩⟩; refine ⟨_, rfl, ?_⟩))
   go_meet
   case rel => exact ⟨_, (true), fz, H', ⟨fl⟩, fd⟩
  ·obtain rfl := bf_ c4
   rw [if_neg nf_] at H
   have H' := Aside0.mk H
   clear H
   go_wp2_with (first | ((with_reducible refine gate_callee (f := 62) rfl ?_); refine gl_ (some 4) Try.func62 #[.float .f64 a0, .int .i64 1] ?_; (with_reducible refine (math_IsInf.calls a0 1 false _ A3.out).mono ?_); rintro e w' ⟨rfl, ⟨nd, rfl⟩⟩; refine ⟨_, rfl, ?_⟩))
   go_meet
   case rel => exact ⟨_, (((a0 : Int) == 0)), fz, H', ⟨fl⟩, fd⟩
 case rest =>
  clear HC2
  obtain ⟨kq, x9_1, rfl, HA, HJ1, ⟨mc1, rfl⟩⟩ := hcut
  cases kq with
  | zero => exact absurd HA.out (by simp [beaconref06_Far.j0])
  | succ kj1 =>
   have H := HA.out
   clear HA
   simp only [beaconref06_Far.j0] at H
   by_cases c5 : x9_1 = true
   ·subst c5
    rw [if_pos rfl] at H
    obtain rfl := oj_ H
    go_wp2
    go_ret
    exact ⟨fz, fd⟩
   ·obtain rfl := bf_ c5
    rw [if_neg nf_] at H
    by_cases c6 : (fLt 0 a0) = true
    ·rw [if_pos c6] at H
     have c6b0 : (fLt 0 a0) = true := c6
     clear c6
     by_cases c7 : (fLt a0 4742290407621132288) = true
     ·rw [if_pos c7] at H
      have c7b0 : (fLt a0 4742290407621132288) = true := c7
      clear c7
      by_cases c8 : (fMulOk a0 4616189618054758400) = true
      ·rw [if_pos c8] at H
       have c8b0 := eq_true c8
       have c8b1 := decide_eq_true c8
       clear c8
       have c9b0 := eq_true (of_decide_eq_true (by first | (with_reducible assumption) | assumption) : (fMulOk a0 4616189618054758400) = true)
       replace H := bs_ H; obtain ⟨t220, A10, H⟩ := H
       obtain rfl := oj_ H
       go_wp2_with (first | (go_at_call 85; (with_reducible refine (math_Trunc.calls (fMul a0 4616189618054758400) t220 _ A10.out).mono ?_); rintro e w' ⟨rfl, ⟨nd, rfl⟩⟩))
       go_ret
       exact ⟨fz, fd⟩
      ·rw [if_neg c8] at H
       exact absurd H (by simp)
     ·rw [if_neg c7] at H
      have c7b0 := bf_ c7
      clear c7
      obtain rfl := oj_ H
      go_wp2
      go_ret
      exact ⟨fz, fd⟩
    ·rw [if_neg c6] at H
     have c6b0 := bf_ c6
     clear c6
     obtain rfl := oj_ H
     go_wp2
     go_ret
     exact ⟨fz, fd⟩

end Go.Proofs.Ytjkhckbfkinheaa.GAa
