-- written by a program of this session (wip/pp): see NOTES.md
import Derived.Test.YtjkhckbfkinheaaGLtx0
import Derived.Test.YtjkhckbfkinheaaGLtx2
import Derived.Test.YtjkhckbfkinheaaGLtx18
import Derived.Test.YtjkhckbfkinheaaHSortNLt
namespace Go.Proofs.Ytjkhckbfkinheaa.GLt
open Go.RowKit Go.Proofs.YtjkhckbfkinheaaW.PrintWords Go.Proofs.YtjkhckbfkinheaaW.PrintLast Go.Proofs.YtjkhckbfkinheaaW.PrintMore
attribute [local go_sem] max2_int min2_int max_two min_two max_three min_three max_four min_four   -- for this text's walks alone
attribute [local go_sem high] binOp_flss binOp_fgtr binOp_fleq binOp_fgeq binOp_feql binOp_fneq run_fadd run_fsub run_fmul run_fquo unary_fneg run_ftoint run_fofint run_feqIn ext_bits ext_frombits ext_trunc
set_option linter.unusedVariables false
set_option linter.unusedSimpArgs false

/-! ### landdv_asked: function 64 -/
def landdv_asked.f (k : Nat) (a0 : Int) (l1 : List (S58)) : Option (Int) := (ident_CheckId.f k a0).bind fun t218 => (if t218 = 0 then ((landdv_may.f k a0 l1).bind fun t219 => (if t219 = true then (some 0) else (some 1))) else (some t218))
set_option maxHeartbeats 8000000 in
set_option maxRecDepth 100000 in
theorem landdv_asked.calls (k : Nat) (a0 : Int) (A1 : Option Addr) (c1 : Nat) (l1 : List (S58)) (r : Int) (w : World) (hr1 : Kd.C k58 w A1 l1.length l1) (hc1 : l1.length ≤ c1) (h : landdv_asked.f k a0 l1 = some r) :
  Calls Try.prog 64 #[.int .i64 a0, .slice A1 l1.length c1] w fun e w' => e = .returned (.int .i64 r) ∧ Below w.heap.size w w' := by
 have HR1 := Aside0.mk hr1
 have HC1 := Aside0.mk hc1
 clear hr1 hc1
 have HB := Aside0.mk (Below.refl w.heap.size w)
 have H : ((ident_CheckId.f k a0).bind fun t218 => (if t218 = 0 then ((landdv_may.f k a0 l1).bind fun t219 => (if t219 = true then (some 0) else (some 1))) else (some t218))) = some r := h
 clear h
 replace H := bs_ H; obtain ⟨t218, A3, H⟩ := H
 by_cases c4 : t218 = 0
 ·rw [if_pos c4] at H
  have c4b0 := be_ c4
  have c4b1 := bg_ c4
  clear c4
  replace H := bs_ H; obtain ⟨t219, A5, H⟩ := H
  by_cases c6 : t219 = true
  ·subst c6
   rw [if_pos rfl] at H
   obtain rfl := oj_ H
   go_enter Try.func64, Try.ntmps64
   go_wp2_with (first | ((with_reducible refine gate_callee (f := 49) rfl ?_); refine gl_ (some 7) Try.func49 #[.int .i64 a0] ?_; (with_reducible refine (ident_CheckId.calls k a0 t218 _ A3.out).mono ?_); rintro e w' ⟨rfl, ⟨nd, rfl⟩⟩; refine ⟨_, rfl, ?_⟩) | ((with_reducible refine gate_callee (f := 89) rfl ?_); refine gl_ (some 13) Try.func89 #[.int .i64 a0, .slice A1 l1.length c1] ?_; (with_reducible refine (landdv_may.calls k a0 _ _ l1 true _ ?side1 ?side2 A5.out).mono ?_); (case side1 => repeat (first | exact HR1.out | (with_reducible refine Kd.C_alloc ?_ _) | (with_reducible refine Kd.C_drewN ?_ _) | (with_reducible refine Kd.C_drew ?_))); (case side2 => exact HC1.out); rintro e w7 ⟨rfl, hb⟩; refine ⟨_, rfl, ?_⟩; replace HB := Aside0.mk (below_step fb hb); (try clear hb)))
   go_ret
   exact ⟨fe, fb⟩
  ·obtain rfl := bf_ c6
   rw [if_neg nf_] at H
   obtain rfl := oj_ H
   go_enter Try.func64, Try.ntmps64
   go_wp2_with (first | ((with_reducible refine gate_callee (f := 49) rfl ?_); refine gl_ (some 7) Try.func49 #[.int .i64 a0] ?_; (with_reducible refine (ident_CheckId.calls k a0 t218 _ A3.out).mono ?_); rintro e w' ⟨rfl, ⟨nd, rfl⟩⟩; refine ⟨_, rfl, ?_⟩) | ((with_reducible refine gate_callee (f := 89) rfl ?_); refine gl_ (some 13) Try.func89 #[.int .i64 a0, .slice A1 l1.length c1] ?_; (with_reducible refine (landdv_may.calls k a0 _ _ l1 false _ ?side1 ?side2 A5.out).mono ?_); (case side1 => repeat (first | exact HR1.out | (with_reducible refine Kd.C_alloc ?_ _) | (with_reducible refine Kd.C_drewN ?_ _) | (with_reducible refine Kd.C_drew ?_))); (case side2 => exact HC1.out); rintro e w8 ⟨rfl, hb⟩; refine ⟨_, rfl, ?_⟩; replace HB := Aside0.mk (below_step fb hb); (try clear hb)))
   go_ret
   exact ⟨fe, fb⟩
 ·rw [if_neg c4] at H
  have c4b0 := bh_ c4
  have c4b1 := bi_ c4
  obtain rfl := oj_ H
  go_enter Try.func64, Try.ntmps64
  go_wp2_with (first | ((with_reducible refine gate_callee (f := 49) rfl ?_); refine gl_ (some 7) Try.func49 #[.int .i64 a0] ?_; (with_reducible refine (ident_CheckId.calls k a0 t218 _ A3.out).mono ?_); rintro e w' ⟨rfl, ⟨nd, rfl⟩⟩; refine ⟨_, rfl, ?_⟩))
  go_ret
  exact ⟨fe, fb⟩

/-! ### landdv_Tell: function 30 -/
mutual
noncomputable def landdv_Tell.j0 : Nat → List (S58) → List (S56) → Option ((List (S56)) × Int)
 | 0, _, _ => none
 | k + 1, x2, x9 => landdv_Tell.l0 k x9 x2 (x2.length : Int) 0
noncomputable def landdv_Tell.l0 : Nat → List (S56) → List (S58) → Int → Int → Option ((List (S56)) × Int)
 | 0, _, _, _, _ => none
 | k + 1, x9, x24, x25, x26 => if x26 < x25 then (if 0 ≤ x26 then (if x26 < (x24.length : Int) then ((math_IsInf.f ((rd_T58 x24 x26).f2) 1).bind fun t226 => (if t226 = true then (landdv_Tell.l0 k x9 x24 x25 (wrap64 (x26 + 1))) else (if x9.length < 3518437208883 then (landdv_Tell.l0 k (x9 ++ [(⟨(rd_T58 x24 x26).f0, 1, (rd_T58 x24 x26).f2, 0, 0⟩ : S56)]) x24 x25 (wrap64 (x26 + 1))) else (none)))) else (none)) else (none)) else ((sort_News.f x9 66).bind fun t230 => (some (t230, 0)))
end
noncomputable def landdv_Tell.f (k : Nat) (a0 : Int) (a1 : Bool) (l2 : List (S58)) : Option ((List (S56)) × Int) := (landdv_asked.f k a0 l2).bind fun t220 => (if t220 = 0 then (if a1 = true then (if ([] : List (S56)).length < 3518437208883 then (landdv_Tell.j0 k l2 (([] : List (S56)) ++ [(⟨a0, 1, 0, 0, 0⟩ : S56)])) else (none)) else (landdv_Tell.j0 k l2 ([] : List (S56)))) else (some (([] : List (S56)), t220)))
set_option maxHeartbeats 8000000 in
set_option maxRecDepth 100000 in
theorem landdv_Tell.calls (k : Nat) (a0 : Int) (a1 : Bool) (A2 : Option Addr) (c2 : Nat) (l2 : List (S58)) (r1 : List (S56)) (r2 : Int) (w : World) (hr2 : Kd.C k58 w A2 l2.length l2) (hc2 : l2.length ≤ c2) (h : landdv_Tell.f k a0 a1 l2 = some (r1, r2)) :
  Calls Try.prog 30 #[.int .i64 a0, .bool a1, .slice A2 l2.length c2] w fun e w' => ∃ v0_ : Value, e = .returned (.tuple #[v0_, .int .i64 r2]) ∧ Kd.R k56 56 w' w.heap.size (fun _ => True) v0_ r1 ∧ Below w.heap.size w w' := by
 have hu56 := Try.underlying56
 have hu58 := Try.underlying58
 have HR2 := Aside0.mk hr2
 have HC2 := Aside0.mk hc2
 clear hr2 hc2
 have HB := Aside0.mk (Below.refl w.heap.size w)
 have H : ((landdv_asked.f k a0 l2).bind fun t220 => (if t220 = 0 then (if a1 = true then (if ([] : List (S56)).length < 3518437208883 then (landdv_Tell.j0 k l2 (([] : List (S56)) ++ [(⟨a0, 1, 0, 0, 0⟩ : S56)])) else (none)) else (landdv_Tell.j0 k l2 ([] : List (S56)))) else (some (([] : List (S56)), t220)))) = some (r1, r2) := h
 clear h
 replace H := bs_ H; obtain ⟨t220, A4, H⟩ := H
 by_cases c5 : t220 = 0
 ·rw [if_pos c5] at H
  have c5b0 := be_ c5
  have c5b1 := bg_ c5
  clear c5
  have HC6 := Aside0.mk H
  clear H
  go_enter Try.func30, Try.ntmps30
  go_upto_if 18 with (first | ((with_reducible refine gate_callee (f := 64) rfl ?_); refine gl_ (some 14) Try.func64 #[.int .i64 a0, .slice A2 l2.length c2] ?_; (with_reducible refine (landdv_asked.calls k a0 _ _ l2 t220 _ ?side1 ?side2 A4.out).mono ?_); (case side1 => repeat (first | exact HR2.out | (with_reducible refine Kd.C_alloc ?_ _) | (with_reducible refine Kd.C_drewN ?_ _) | (with_reducible refine Kd.C_drew ?_))); (case side2 => exact HC2.out); rintro e w7 ⟨rfl, hb⟩; refine ⟨_, rfl, ?_⟩; replace HB := Aside0.mk (below_step fb hb); (try clear hb)))
  (try simp only [Act.put, qa, qb, qc])
  go_cut [9] (fun v9 wc => ∃ (kq : Nat) (x9_5 : List (S56)), Aside0 (landdv_Tell.j0 kq l2 x9_5 = some (r1, r2)) ∧ Aside0 (kq ≤ k) ∧ Aside0 (Kd.R k56 56 wc w.heap.size (fun _ => True) v9 x9_5) ∧ Aside0 (Below w.heap.size w wc))
  case first =>
   have H := HC6.out
   clear HC6
   by_cases c8 : a1 = true
   ·subst c8
    have H1 : (if ([] : List (S56)).length < 3518437208883 then (landdv_Tell.j0 k l2 (([] : List (S56)) ++ [(⟨a0, 1, 0, 0, 0⟩ : S56)])) else (none)) = some (r1, r2) := by rw [if_pos rfl] at H; exact H
    clear H
    have H := H1
    clear H1
    by_cases c9 : ([] : List (S56)).length < 3518437208883
    ·rw [if_pos c9] at H
     have LMc9 := Aside0.mk c9
     clear c9
     obtain ⟨y221, hy221⟩ : ∃ y_ : List (S56), y_ = (([] : List (S56)) ++ [(⟨a0, 1, 0, 0, 0⟩ : S56)]) := ⟨_, rfl⟩
     replace H : (landdv_Tell.j0 k l2 y221) = some (r1, r2) := by first | (rw [hy221]; with_reducible exact H) | (have H2_ := (Option.bind_some _ _).symm.trans H; rw [hy221]; with_reducible exact H2_) | (have H2_ := (Option.bind_some _ _).symm.trans H; with_reducible exact H2_) | with_reducible exact H | (rw [hy221]; exact H) | exact H
     have Ny221 := Aside0.mk hy221
     clear hy221
     have H' := Aside0.mk H
     clear H
     go_wp2_with (first | ((with_reducible refine gate_builtin (b := .append) (xs := #[.tmp 19, .tmp 22]) rfl ?_); at_builtin; refine Kd.R_append k56 (w0 := w) w.heap.size rfl (.tmp 19) (.tmp 22) 35 56 (.agg #[(.int .i64 0), (.int .i64 0), (.float .f64 0), (.float .f64 0), (.int .i64 0)]) 40 rfl Try.underlying35 info56 rfl (by decide) (by omega) (.slice none 0 0) ([] : List (S56)) (⟨a0, 1, 0, 0, 0⟩ : S56) [.int .i64 a0, .int .i64 1, .float .f64 0, .float .f64 0, .int .i64 0] (fun _ => True) (fun _ => False) rfl rfl ?aP (fun _ hk => hk.elim) ?aF ?aO ?aB ?aS ?aL ?_; (case aP => exact k56_mkM _ _ _ (⟨a0, 1, 0, 0, 0⟩ : S56)); (case aB => exact fb); (case aF => exact (fun _ _ => trivial)); (case aO => exact ((Kd.R_nil _ _ _ _ (fun _ => True)))); (case aS => exact (below_size fb)); (case aL => have := LMc9.out; omega); intro v222 w10 ho hb hg hat; rw [← Ny221.out] at ho; have n0_ := Aside0.mk (hb); have n1_ := Aside0.mk (ho); clear HB; have HB := n0_; have HO223 := n1_; clear n0_ n1_; clear ho hb hg hat))
     go_meet
     case rel => exact ⟨_, (y221), H', ⟨fl⟩, ⟨by (with_reducible repeat (first | apply Kd.R_alloc | apply Kd.R_drewN | apply Kd.R_drew)); exact HO223.out⟩, ⟨fb⟩⟩
    ·rw [if_neg c9] at H
     exact absurd H (by simp)
   ·obtain rfl := bf_ c8
    have H1 : (landdv_Tell.j0 k l2 ([] : List (S56))) = some (r1, r2) := by rw [if_neg (show ¬ (false = true) by decide)] at H; exact H
    clear H
    have H := H1
    clear H1
    have H' := Aside0.mk H
    clear H
    go_wp2
    go_meet
    case rel => exact ⟨_, (([] : List (S56))), H', ⟨fl⟩, ⟨by first | exact Kd.R_nil _ _ _ _ _ | exact Kd.N_nil _ _ _ _ _ | exact Kd.V_nil _ _ _ _ _ | exact Kd.Q_nil _ _ _ _ _ | exact Kd.S_nil _ _ _ _ _⟩, ⟨fb⟩⟩
  case rest =>
   clear HC6
   (try clear c2); (try clear c5); (try clear c5b0); (try clear c5b1)
   obtain ⟨kq, x9_5, HA, HJ5, HO_9, HB⟩ := hcut
   cases kq with
   | zero => exact absurd HA.out (by simp [landdv_Tell.j0])
   | succ kj5 =>
    have H := HA.out
    clear HA
    simp only [landdv_Tell.j0] at H
    have H' := Aside0.mk H
    clear H
    go_wp2
    go_loopg [9, 26] kj5 (fun kq v9 v26 w' => ∃ (x9_2 : List (S56)) (x26_2 : Int), v26 = .int .i64 x26_2 ∧ Aside0 (landdv_Tell.l0 kq x9_2 l2 (l2.length : Int) x26_2 = some (r1, r2)) ∧ Aside0 (kq ≤ kj5) ∧ Aside0 (Kd.R k56 56 w' w.heap.size (fun _ => True) v9 x9_2) ∧ Aside0 (Below w.heap.size w w'))
    case atStart => exact ⟨(x9_5), (0), fz, H', ⟨Nat.le_refl _⟩, ⟨by (with_reducible repeat (first | apply Kd.R_alloc | apply Kd.R_drewN | apply Kd.R_drew)); exact HO_9.out⟩, ⟨fb⟩⟩
    case round =>
     clear H'
     (try clear c2); (try clear c5); (try clear c5b0); (try clear c5b1)
     obtain ⟨x9_2, x26_2, rfl, HA, HK2, HO_9, HB⟩ := hrel
     cases gk with
     | zero => exact absurd HA.out (by simp [landdv_Tell.l0])
     | succ k2 =>
      have H := HA.out
      clear HA
      simp only [landdv_Tell.l0] at H
      by_cases c11 : x26_2 < (l2.length : Int)
      ·rw [if_pos c11] at H
       have c11b0 := decide_eq_true c11
       clear c11
       by_cases c12 : 0 ≤ x26_2
       ·rw [if_pos c12] at H
        have c12b0 := decide_eq_true c12
        clear c12
        by_cases c13 : x26_2 < (l2.length : Int)
        ·rw [if_pos c13] at H
         have c13b0 := decide_eq_true c13
         clear c13
         replace H := bs_ H; obtain ⟨t226, A14, H⟩ := H
         by_cases c15 : t226 = true
         ·subst c15
          have H1 : (landdv_Tell.l0 k2 x9_2 l2 (l2.length : Int) (wrap64 (x26_2 + 1))) = some (r1, r2) := by rw [if_pos rfl] at H; exact H
          clear H
          have H := H1
          clear H1
          have H' := Aside0.mk H
          clear H
          have p224 : 0 ≤ (x26_2 : Int) := of_decide_eq_true (by first | (with_reducible assumption) | assumption)
          have q224 : x26_2 < (l2.length : Int) := of_decide_eq_true (by first | (with_reducible assumption) | assumption)
          obtain ⟨ad224, e224, hx224_0, hx224_1, hx224_2, hx224_3, hx224_4, hx224_5⟩ := at_T58 HR2.out x26_2 p224 q224
          cases e224
          replace hx224_0 := pw_cell_below HB.out hx224_0
          replace hx224_1 := pw_cell_below HB.out hx224_1
          replace hx224_2 := pw_cell_below HB.out hx224_2
          replace hx224_3 := pw_cell_below HB.out hx224_3
          replace hx224_4 := pw_cell_below HB.out hx224_4
          replace hx224_5 := pw_cell_below HB.out hx224_5
          replace p224 := eq_true p224
          replace q224 := eq_true q224
          go_wp2_with (first | ((with_reducible refine gate_dst (N := 11) rfl ?_); refine bz_ (N := 11) #[.int .i64 0, .int .i64 0, .float .f64 0, .int .i64 0, .float .f64 0, .int .i64 0] 58 ?_; intro gb225 hg w16 hbox hb; have n0_ := Aside0.mk (Kd.R_below (by (with_reducible repeat (first | apply Kd.R_alloc | apply Kd.R_drewN | apply Kd.R_drew)); exact HO_9.out) hb); have n1_ := Aside0.mk (below_step fb hb); have n2_ := Aside0.mk (hbox); have n3_ := Aside0.mk ((by rw [hg]; exact (below_size fb) : w.heap.size ≤ gb225)); have n4_ := Aside0.mk ((by rw [hg]; exact (below_size fb) : w.heap.size ≤ gb225)); clear HO_9; clear HB; have HO_9 := n0_; have HB := n1_; have BK225 := n2_; have GW225 := n3_; have GE225 := n4_; clear n0_ n1_ n2_ n3_ n4_; clear hb hbox hg; obtain ⟨hcz17_0, hcz17_1, hcz17_2, hcz17_3, hcz17_4, hcz17_5, hfz17_0, hfz17_1, hfz17_2, hfz17_3, hfz17_4, hfz17_5⟩ := cz6 BK225.out) | ((with_reducible refine gate_callee (f := 62) rfl ?_); refine gl_ (some 32) Try.func62 #[.float .f64 ((rd_T58 l2 x26_2).f2), .int .i64 1] ?_; (with_reducible refine (math_IsInf.calls ((rd_T58 l2 x26_2).f2) 1 true _ A14.out).mono ?_); rintro e w' ⟨rfl, ⟨nd, rfl⟩⟩; refine ⟨_, rfl, ?_⟩))
          go_roundg k2
          case measure => have := HJ5.out; have := HK2.out; omega
          case rel => exact ⟨(x9_2), (wrap64 (x26_2 + 1)), fz, H', ⟨by have := HJ5.out; have := HK2.out; omega⟩, ⟨by (with_reducible repeat (first | apply Kd.R_alloc | apply Kd.R_drewN | apply Kd.R_drew)); exact Kd.R_mono (Kd.R_far (p := ⟨gb225, 5, none⟩) (Kd.R_far (p := ⟨gb225, 4, none⟩) (Kd.R_far (p := ⟨gb225, 3, none⟩) (Kd.R_far (p := ⟨gb225, 2, none⟩) (Kd.R_far (p := ⟨gb225, 1, none⟩) (Kd.R_far (p := ⟨gb225, 0, none⟩) (Kd.R_types HO_9.out BK225.out (by decide)) (fun _ hk => hk.2) (.int .i64 ((rd_T58 l2 x26_2).f0))) (fun _ hk => hk.2) (.int .i64 ((rd_T58 l2 x26_2).f1))) (fun _ hk => hk.2) (.float .f64 ((rd_T58 l2 x26_2).f2))) (fun _ hk => hk.2) (.int .i64 ((rd_T58 l2 x26_2).f3))) (fun _ hk => hk.2) (.float .f64 ((rd_T58 l2 x26_2).f4))) (fun _ hk => hk.2) (.int .i64 ((rd_T58 l2 x26_2).f5))) (fun _ hk => trivial)⟩, ⟨fb1 GE225⟩⟩
         ·obtain rfl := bf_ c15
          have H1 : (if x9_2.length < 3518437208883 then (landdv_Tell.l0 k2 (x9_2 ++ [(⟨(rd_T58 l2 x26_2).f0, 1, (rd_T58 l2 x26_2).f2, 0, 0⟩ : S56)]) l2 (l2.length : Int) (wrap64 (x26_2 + 1))) else (none)) = some (r1, r2) := by rw [if_neg (show ¬ (false = true) by decide)] at H; exact H
          clear H
          have H := H1
          clear H1
          by_cases c18 : x9_2.length < 3518437208883
          ·rw [if_pos c18] at H
           have LMc18 := Aside0.mk c18
           clear c18
           obtain ⟨y227, hy227⟩ : ∃ y_ : List (S56), y_ = (x9_2 ++ [(⟨(rd_T58 l2 x26_2).f0, 1, (rd_T58 l2 x26_2).f2, 0, 0⟩ : S56)]) := ⟨_, rfl⟩
           replace H : (landdv_Tell.l0 k2 y227 l2 (l2.length : Int) (wrap64 (x26_2 + 1))) = some (r1, r2) := by first | (rw [hy227]; with_reducible exact H) | (have H2_ := (Option.bind_some _ _).symm.trans H; rw [hy227]; with_reducible exact H2_) | (have H2_ := (Option.bind_some _ _).symm.trans H; with_reducible exact H2_) | with_reducible exact H | (rw [hy227]; exact H) | exact H
           have Ny227 := Aside0.mk hy227
           clear hy227
           have H' := Aside0.mk H
           clear H
           have p224 : 0 ≤ (x26_2 : Int) := of_decide_eq_true (by first | (with_reducible assumption) | assumption)
           have q224 : x26_2 < (l2.length : Int) := of_decide_eq_true (by first | (with_reducible assumption) | assumption)
           obtain ⟨ad224, e224, hx224_0, hx224_1, hx224_2, hx224_3, hx224_4, hx224_5⟩ := at_T58 HR2.out x26_2 p224 q224
           cases e224
           replace hx224_0 := pw_cell_below HB.out hx224_0
           replace hx224_1 := pw_cell_below HB.out hx224_1
           replace hx224_2 := pw_cell_below HB.out hx224_2
           replace hx224_3 := pw_cell_below HB.out hx224_3
           replace hx224_4 := pw_cell_below HB.out hx224_4
           replace hx224_5 := pw_cell_below HB.out hx224_5
           replace p224 := eq_true p224
           replace q224 := eq_true q224
           go_wp2_with (first | ((with_reducible refine gate_dst (N := 11) rfl ?_); refine bz_ (N := 11) #[.int .i64 0, .int .i64 0, .float .f64 0, .int .i64 0, .float .f64 0, .int .i64 0] 58 ?_; intro gb225 hg w19 hbox hb; have n0_ := Aside0.mk (Kd.R_below (by (with_reducible repeat (first | apply Kd.R_alloc | apply Kd.R_drewN | apply Kd.R_drew)); exact HO_9.out) hb); have n1_ := Aside0.mk (below_step fb hb); have n2_ := Aside0.mk (hbox); have n3_ := Aside0.mk ((by rw [hg]; exact (below_size fb) : w.heap.size ≤ gb225)); have n4_ := Aside0.mk ((by rw [hg]; exact (below_size fb) : w.heap.size ≤ gb225)); clear HO_9; clear HB; have HO_9 := n0_; have HB := n1_; have BK225 := n2_; have GW225 := n3_; have GE225 := n4_; clear n0_ n1_ n2_ n3_ n4_; clear hb hbox hg; obtain ⟨hcz20_0, hcz20_1, hcz20_2, hcz20_3, hcz20_4, hcz20_5, hfz20_0, hfz20_1, hfz20_2, hfz20_3, hfz20_4, hfz20_5⟩ := cz6 BK225.out) | ((with_reducible refine gate_callee (f := 62) rfl ?_); refine gl_ (some 32) Try.func62 #[.float .f64 ((rd_T58 l2 x26_2).f2), .int .i64 1] ?_; (with_reducible refine (math_IsInf.calls ((rd_T58 l2 x26_2).f2) 1 false _ A14.out).mono ?_); rintro e w' ⟨rfl, ⟨nd, rfl⟩⟩; refine ⟨_, rfl, ?_⟩) | ((with_reducible refine gate_builtin (b := .append) (xs := #[.tmp 34, .tmp 40]) rfl ?_); at_builtin; refine Kd.R_append k56 (w0 := w) w.heap.size rfl (.tmp 34) (.tmp 40) 35 56 (.agg #[(.int .i64 0), (.int .i64 0), (.float .f64 0), (.float .f64 0), (.int .i64 0)]) 40 rfl Try.underlying35 info56 rfl (by decide) (by omega) u9 x9_2 (⟨(rd_T58 l2 x26_2).f0, 1, (rd_T58 l2 x26_2).f2, 0, 0⟩ : S56) [.int .i64 ((rd_T58 l2 x26_2).f0), .int .i64 1, .float .f64 ((rd_T58 l2 x26_2).f2), .float .f64 0, .int .i64 0] (fun _ => True) (fun _ => False) rfl (by first | (go_simp; done) | (go_simp; rfl)) ?aP (fun _ hk => hk.elim) ?aF ?aO ?aB ?aS ?aL ?_; (case aP => exact k56_mkM _ _ _ (⟨(rd_T58 l2 x26_2).f0, 1, (rd_T58 l2 x26_2).f2, 0, 0⟩ : S56)); (case aB => exact (fb1 GE225)); (case aF => exact (fun _ _ => trivial)); (case aO => exact (by (with_reducible repeat (first | apply Kd.R_alloc | apply Kd.R_drewN | apply Kd.R_drew)); exact Kd.R_mono (Kd.R_far (p := ⟨gb225, 5, none⟩) (Kd.R_far (p := ⟨gb225, 4, none⟩) (Kd.R_far (p := ⟨gb225, 3, none⟩) (Kd.R_far (p := ⟨gb225, 2, none⟩) (Kd.R_far (p := ⟨gb225, 1, none⟩) (Kd.R_far (p := ⟨gb225, 0, none⟩) (Kd.R_types HO_9.out BK225.out (by decide)) (fun _ hk => hk.2) (.int .i64 ((rd_T58 l2 x26_2).f0))) (fun _ hk => hk.2) (.int .i64 ((rd_T58 l2 x26_2).f1))) (fun _ hk => hk.2) (.float .f64 ((rd_T58 l2 x26_2).f2))) (fun _ hk => hk.2) (.int .i64 ((rd_T58 l2 x26_2).f3))) (fun _ hk => hk.2) (.float .f64 ((rd_T58 l2 x26_2).f4))) (fun _ hk => hk.2) (.int .i64 ((rd_T58 l2 x26_2).f5))) (fun _ hk => trivial))); (case aS => exact (below_size (fb1 GE225))); (case aL => have := LMc18.out; omega); intro v228 w21 ho hb hg hat; rw [← Ny227.out] at ho; have n0_ := Aside0.mk (blk_grown (g := gb225) (o := .cells #[.int .i64 ((rd_T58 l2 x26_2).f0), .int .i64 ((rd_T58 l2 x26_2).f1), .float .f64 ((rd_T58 l2 x26_2).f2), .int .i64 ((rd_T58 l2 x26_2).f3), .float .f64 ((rd_T58 l2 x26_2).f4), .int .i64 ((rd_T58 l2 x26_2).f5)] 58 (0, 0)) (kp BK225.out) hg (Kd.R_ne HO_9.out BK225.out (by decide))); have n1_ := Aside0.mk (hb); have n2_ := Aside0.mk (ho); clear BK225; clear HB; clear HO_9; have BK225 := n0_; have HB := n1_; have HO229 := n2_; clear n0_ n1_ n2_; clear ho hb hg hat))
           go_roundg k2
           case measure => have := HJ5.out; have := HK2.out; omega
           case rel => exact ⟨(y227), (wrap64 (x26_2 + 1)), fz, H', ⟨by have := HJ5.out; have := HK2.out; omega⟩, ⟨by (with_reducible repeat (first | apply Kd.R_alloc | apply Kd.R_drewN | apply Kd.R_drew)); exact HO229.out⟩, ⟨fb1 GE225⟩⟩
          ·rw [if_neg c18] at H
           exact absurd H (by simp)
        ·rw [if_neg c13] at H
         exact absurd H (by simp)
       ·rw [if_neg c12] at H
        exact absurd H (by simp)
      ·rw [if_neg c11] at H
       have c11b0 := decide_eq_false c11
       clear c11
       replace H := bs_ H; obtain ⟨t230, A22, H⟩ := H
       simp only [Option.some.injEq, Prod.mk.injEq] at H
       obtain ⟨rfl, rfl⟩ := H
       obtain ⟨Ao23, co23, eo23⟩ := Kd.R_slice HO_9.out
       subst eo23
       go_wp2_with (first | ((with_reducible refine gate_callee (f := 57) rfl ?_); refine gl_ (some 44) Try.func57 #[.slice Ao23 x9_2.length co23, .func (.func 66) #[] #[]] ?_; (with_reducible refine (sort_News.calls (fun k_ => some k_ = (.slice Ao23 x9_2.length co23 : Value).ownBlock) (.slice Ao23 x9_2.length co23) x9_2 66 t230 w _ ?side1 ?side2 A22.out).mono ?_); (case side1 => repeat (first | (with_reducible first | exact HB.out | apply below_alloc | apply pw_below_drewN | apply below_drew1) | exact HB.out)); (case side2 => exact Kd.R_tight rfl HO_9.out); rintro e w24 ⟨rfl, hy0, hb, hkp⟩; refine ⟨_, rfl, ?_⟩; have n0_ := Aside0.mk (Kd.R_reok rfl hy0 (fun k_ e_ => HO_9.out.1 k_ e_)); have n1_ := Aside0.mk (hb); clear HO_9; clear HB; have HO_9 := n0_; have HB := n1_; clear n0_ n1_; (try clear hb); (try clear hkp); (try clear hy0)))
       go_ret2
       exact ⟨_, by first | rfl | (simp [errW_none, errW_some] <;> rfl) | (simp [*, errW_none, errW_some] <;> rfl), by (with_reducible repeat (first | apply Kd.R_alloc | apply Kd.R_drewN | apply Kd.R_drew)); exact HO_9.out, fb⟩
 ·rw [if_neg c5] at H
  have c5b0 := bh_ c5
  have c5b1 := bi_ c5
  simp only [Option.some.injEq, Prod.mk.injEq] at H
  obtain ⟨rfl, rfl⟩ := H
  go_enter Try.func30, Try.ntmps30
  go_wp2_with (first | ((with_reducible refine gate_callee (f := 64) rfl ?_); refine gl_ (some 14) Try.func64 #[.int .i64 a0, .slice A2 l2.length c2] ?_; (with_reducible refine (landdv_asked.calls k a0 _ _ l2 t220 _ ?side1 ?side2 A4.out).mono ?_); (case side1 => repeat (first | exact HR2.out | (with_reducible refine Kd.C_alloc ?_ _) | (with_reducible refine Kd.C_drewN ?_ _) | (with_reducible refine Kd.C_drew ?_))); (case side2 => exact HC2.out); rintro e w25 ⟨rfl, hb⟩; refine ⟨_, rfl, ?_⟩; replace HB := Aside0.mk (below_step fb hb); (try clear hb)))
  go_ret2
  exact ⟨_, by first | rfl | (simp [errW_none, errW_some] <;> rfl) | (simp [*, errW_none, errW_some] <;> rfl), by first | exact Kd.R_nil _ _ _ _ _ | exact Kd.N_nil _ _ _ _ _ | exact Kd.V_nil _ _ _ _ _ | exact Kd.Q_nil _ _ _ _ _ | exact Kd.S_nil _ _ _ _ _, fb⟩

end Go.Proofs.Ytjkhckbfkinheaa.GLt
