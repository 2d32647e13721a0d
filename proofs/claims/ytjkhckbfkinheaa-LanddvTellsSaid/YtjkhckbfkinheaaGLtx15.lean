-- written by a program of this session (wip/pp): see NOTES.md
import Derived.Test.YtjkhckbfkinheaaGLtx0
namespace Go.Proofs.Ytjkhckbfkinheaa.GLt
open Go.RowKit Go.Proofs.YtjkhckbfkinheaaW.PrintWords Go.Proofs.YtjkhckbfkinheaaW.PrintLast Go.Proofs.YtjkhckbfkinheaaW.PrintMore
attribute [local go_sem] max2_int min2_int max_two min_two max_three min_three max_four min_four   -- for this text's walks alone
attribute [local go_sem high] binOp_flss binOp_fgtr binOp_fleq binOp_fgeq binOp_feql binOp_fneq run_fadd run_fsub run_fmul run_fquo unary_fneg run_ftoint run_fofint run_feqIn ext_bits ext_frombits ext_trunc
set_option linter.unusedVariables false
set_option linter.unusedSimpArgs false

/-! ### beaconref06_SameNews: function 22 -/
mutual
def beaconref06_SameNews.l0 : Nat → List (S56) → List (S56) → Int → Option (Bool)
 | 0, _, _, _ => none
 | k + 1, x0, x1, x5 => if x5 < (x0.length : Int) then (if 0 ≤ x5 then (if x5 < (x1.length : Int) then (if ((rd_T56 x0 x5).f0) = ((rd_T56 x1 x5).f0) then (if ((rd_T56 x0 x5).f1) = ((rd_T56 x1 x5).f1) then (if ((rd_T56 x0 x5).f4) = ((rd_T56 x1 x5).f4) then (if (((rd_T56 x0 x5).f2) : Int) = (((rd_T56 x1 x5).f2) : Int) then (beaconref06_SameNews.j1 k x0 x1 x5 ((((rd_T56 x0 x5).f3) : Int) != (((rd_T56 x1 x5).f3) : Int))) else (beaconref06_SameNews.j1 k x0 x1 x5 true)) else (beaconref06_SameNews.j1 k x0 x1 x5 true)) else (beaconref06_SameNews.j1 k x0 x1 x5 true)) else (beaconref06_SameNews.j1 k x0 x1 x5 true)) else (none)) else (none)) else (some true)
def beaconref06_SameNews.j1 : Nat → List (S56) → List (S56) → Int → Bool → Option (Bool)
 | 0, _, _, _, _ => none
 | k + 1, x0, x1, x5, x63 => if x63 = true then (some false) else (beaconref06_SameNews.l0 k x0 x1 (wrap64 (x5 + 1)))
end
def beaconref06_SameNews.f (k : Nat) (l0 : List (S56)) (l1 : List (S56)) : Option (Bool) := if (l0.length : Int) = (l1.length : Int) then (beaconref06_SameNews.l0 k l0 l1 0) else (some false)
set_option maxHeartbeats 8000000 in
set_option maxRecDepth 100000 in
theorem beaconref06_SameNews.calls (k : Nat) (A0 : Option Addr) (c0 : Nat) (l0 : List (S56)) (A1 : Option Addr) (c1 : Nat) (l1 : List (S56)) (r : Bool) (w : World) (hr0 : Kd.C k56 w A0 l0.length l0) (hc0 : l0.length ≤ c0) (hr1 : Kd.C k56 w A1 l1.length l1) (hc1 : l1.length ≤ c1) (h : beaconref06_SameNews.f k l0 l1 = some r) :
  Calls Try.prog 22 #[.slice A0 l0.length c0, .slice A1 l1.length c1] w fun e w' => e = .returned (.bool r) ∧ Below w.heap.size w w' := by
 have hu56 := Try.underlying56
 have HR0 := Aside0.mk hr0
 have HC0 := Aside0.mk hc0
 clear hr0 hc0
 have HR1 := Aside0.mk hr1
 have HC1 := Aside0.mk hc1
 clear hr1 hc1
 have HB := Aside0.mk (Below.refl w.heap.size w)
 have H : (if (l0.length : Int) = (l1.length : Int) then (beaconref06_SameNews.l0 k l0 l1 0) else (some false)) = some r := h
 clear h
 by_cases c3 : (l0.length : Int) = (l1.length : Int)
 ·rw [if_pos c3] at H
  have c3b0 := be_ c3
  have c3b1 := bg_ c3
  have c3b2 : (l0.length == l1.length) = true := by first | simpa using c3 | (simp at c3 ⊢; omega)
  clear c3
  have H' := Aside0.mk H
  clear H
  go_enter Try.func22, Try.ntmps22
  go_wp2
  repeat (go_quiet (fail); try go_wp2)
  go_loopg [5] k (fun kq v5 w' => ∃ (x5_1 : Int), v5 = .int .i64 x5_1 ∧ Aside0 (beaconref06_SameNews.l0 kq l0 l1 x5_1 = some r) ∧ Aside0 (kq ≤ k) ∧ Aside0 (Below w.heap.size w w'))
  case atStart => exact ⟨(0), fz, H', ⟨Nat.le_refl _⟩, ⟨fb⟩⟩
  case round =>
   clear H'
   (try clear c1); (try clear c3); (try clear c3b0); (try clear c3b1); (try clear c3b2)
   obtain ⟨x5_1, rfl, HA, HK1, HB⟩ := hrel
   cases gk with
   | zero => exact absurd HA.out (by simp [beaconref06_SameNews.l0])
   | succ k1 =>
    have H := HA.out
    clear HA
    simp only [beaconref06_SameNews.l0] at H
    by_cases c4 : x5_1 < (l0.length : Int)
    ·rw [if_pos c4] at H
     have c4b0 := decide_eq_true c4
     clear c4
     by_cases c5 : 0 ≤ x5_1
     ·rw [if_pos c5] at H
      have c5b0 := decide_eq_true c5
      clear c5
      by_cases c6 : x5_1 < (l1.length : Int)
      ·rw [if_pos c6] at H
       have c6b0 := decide_eq_true c6
       clear c6
       have HC7 := Aside0.mk H
       clear H
       have p191 : 0 ≤ (x5_1 : Int) := of_decide_eq_true (by first | (with_reducible assumption) | assumption)
       have q191 : x5_1 < (l0.length : Int) := of_decide_eq_true (by first | (with_reducible assumption) | assumption)
       obtain ⟨ad191, e191, hx191_0, hx191_1, hx191_2, hx191_3, hx191_4⟩ := at_T56 HR0.out x5_1 p191 q191
       cases e191
       replace hx191_0 := pw_cell_below HB.out hx191_0
       replace hx191_1 := pw_cell_below HB.out hx191_1
       replace hx191_2 := pw_cell_below HB.out hx191_2
       replace hx191_3 := pw_cell_below HB.out hx191_3
       replace hx191_4 := pw_cell_below HB.out hx191_4
       replace p191 := eq_true p191
       replace q191 := eq_true q191
       go_upto_region 8 with (first | ((with_reducible refine gate_dst (N := 6) rfl ?_); refine bx_ (N := 6) #[.int .i64 0, .int .i64 0, .float .f64 0, .float .f64 0, .int .i64 0] 56 ⟨fb⟩ ?_; clear HB; intro gb192 w8 HB BK192 GE192; have GW192 := GE192; obtain ⟨hcz9_0, hcz9_1, hcz9_2, hcz9_3, hcz9_4, hfz9_0, hfz9_1, hfz9_2, hfz9_3, hfz9_4⟩ := cz5 BK192.out; have p193 : 0 ≤ (x5_1 : Int) := of_decide_eq_true (by first | (with_reducible assumption) | assumption); have q193 : x5_1 < (l1.length : Int) := of_decide_eq_true (by first | (with_reducible assumption) | assumption); obtain ⟨ad193, e193, hx193_0, hx193_1, hx193_2, hx193_3, hx193_4⟩ := at_T56 HR1.out x5_1 p193 q193; cases e193; have hn193_0 : ad193.block ≠ gb192 := Nat.ne_of_lt (Nat.lt_of_lt_of_le (by have := World.block_lt_of_cell? _ _ hx193_0; first | rwa [add_block] at this | exact this) GW192.out); have hn193_1 : ad193.block ≠ gb192 := Nat.ne_of_lt (Nat.lt_of_lt_of_le (by have := World.block_lt_of_cell? _ _ hx193_0; first | rwa [add_block] at this | exact this) GW192.out); have hn193_2 : ad193.block ≠ gb192 := Nat.ne_of_lt (Nat.lt_of_lt_of_le (by have := World.block_lt_of_cell? _ _ hx193_0; first | rwa [add_block] at this | exact this) GW192.out); have hn193_3 : ad193.block ≠ gb192 := Nat.ne_of_lt (Nat.lt_of_lt_of_le (by have := World.block_lt_of_cell? _ _ hx193_0; first | rwa [add_block] at this | exact this) GW192.out); have hn193_4 : ad193.block ≠ gb192 := Nat.ne_of_lt (Nat.lt_of_lt_of_le (by have := World.block_lt_of_cell? _ _ hx193_0; first | rwa [add_block] at this | exact this) GW192.out); replace hx193_0 := pw_cell_below HB.out hx193_0; replace hx193_1 := pw_cell_below HB.out hx193_1; replace hx193_2 := pw_cell_below HB.out hx193_2; replace hx193_3 := pw_cell_below HB.out hx193_3; replace hx193_4 := pw_cell_below HB.out hx193_4; replace hx193_0 := (cell_far (p := ⟨gb192, 0, none⟩) (by first | (rw [add_block]; exact hn193_0) | (show (Addr.add _ _).block ≠ _; rw [add_block]; exact hn193_0) | exact hn193_0) (.int .i64 ((rd_T56 l0 x5_1).f0))).trans hx193_0; replace hx193_1 := (cell_far (p := ⟨gb192, 0, none⟩) (by first | (rw [add_block]; exact hn193_0) | (show (Addr.add _ _).block ≠ _; rw [add_block]; exact hn193_0) | exact hn193_0) (.int .i64 ((rd_T56 l0 x5_1).f0))).trans hx193_1; replace hx193_2 := (cell_far (p := ⟨gb192, 0, none⟩) (by first | (rw [add_block]; exact hn193_0) | (show (Addr.add _ _).block ≠ _; rw [add_block]; exact hn193_0) | exact hn193_0) (.int .i64 ((rd_T56 l0 x5_1).f0))).trans hx193_2; replace hx193_3 := (cell_far (p := ⟨gb192, 0, none⟩) (by first | (rw [add_block]; exact hn193_0) | (show (Addr.add _ _).block ≠ _; rw [add_block]; exact hn193_0) | exact hn193_0) (.int .i64 ((rd_T56 l0 x5_1).f0))).trans hx193_3; replace hx193_4 := (cell_far (p := ⟨gb192, 0, none⟩) (by first | (rw [add_block]; exact hn193_0) | (show (Addr.add _ _).block ≠ _; rw [add_block]; exact hn193_0) | exact hn193_0) (.int .i64 ((rd_T56 l0 x5_1).f0))).trans hx193_4; replace hx193_0 := (cell_far (p := ⟨gb192, 1, none⟩) (by first | (rw [add_block]; exact hn193_1) | (show (Addr.add _ _).block ≠ _; rw [add_block]; exact hn193_1) | exact hn193_1) (.int .i64 ((rd_T56 l0 x5_1).f1))).trans hx193_0; replace hx193_1 := (cell_far (p := ⟨gb192, 1, none⟩) (by first | (rw [add_block]; exact hn193_1) | (show (Addr.add _ _).block ≠ _; rw [add_block]; exact hn193_1) | exact hn193_1) (.int .i64 ((rd_T56 l0 x5_1).f1))).trans hx193_1; replace hx193_2 := (cell_far (p := ⟨gb192, 1, none⟩) (by first | (rw [add_block]; exact hn193_1) | (show (Addr.add _ _).block ≠ _; rw [add_block]; exact hn193_1) | exact hn193_1) (.int .i64 ((rd_T56 l0 x5_1).f1))).trans hx193_2; replace hx193_3 := (cell_far (p := ⟨gb192, 1, none⟩) (by first | (rw [add_block]; exact hn193_1) | (show (Addr.add _ _).block ≠ _; rw [add_block]; exact hn193_1) | exact hn193_1) (.int .i64 ((rd_T56 l0 x5_1).f1))).trans hx193_3; replace hx193_4 := (cell_far (p := ⟨gb192, 1, none⟩) (by first | (rw [add_block]; exact hn193_1) | (show (Addr.add _ _).block ≠ _; rw [add_block]; exact hn193_1) | exact hn193_1) (.int .i64 ((rd_T56 l0 x5_1).f1))).trans hx193_4; replace hx193_0 := (cell_far (p := ⟨gb192, 2, none⟩) (by first | (rw [add_block]; exact hn193_2) | (show (Addr.add _ _).block ≠ _; rw [add_block]; exact hn193_2) | exact hn193_2) (.float .f64 ((rd_T56 l0 x5_1).f2))).trans hx193_0; replace hx193_1 := (cell_far (p := ⟨gb192, 2, none⟩) (by first | (rw [add_block]; exact hn193_2) | (show (Addr.add _ _).block ≠ _; rw [add_block]; exact hn193_2) | exact hn193_2) (.float .f64 ((rd_T56 l0 x5_1).f2))).trans hx193_1; replace hx193_2 := (cell_far (p := ⟨gb192, 2, none⟩) (by first | (rw [add_block]; exact hn193_2) | (show (Addr.add _ _).block ≠ _; rw [add_block]; exact hn193_2) | exact hn193_2) (.float .f64 ((rd_T56 l0 x5_1).f2))).trans hx193_2; replace hx193_3 := (cell_far (p := ⟨gb192, 2, none⟩) (by first | (rw [add_block]; exact hn193_2) | (show (Addr.add _ _).block ≠ _; rw [add_block]; exact hn193_2) | exact hn193_2) (.float .f64 ((rd_T56 l0 x5_1).f2))).trans hx193_3; replace hx193_4 := (cell_far (p := ⟨gb192, 2, none⟩) (by first | (rw [add_block]; exact hn193_2) | (show (Addr.add _ _).block ≠ _; rw [add_block]; exact hn193_2) | exact hn193_2) (.float .f64 ((rd_T56 l0 x5_1).f2))).trans hx193_4; replace hx193_0 := (cell_far (p := ⟨gb192, 3, none⟩) (by first | (rw [add_block]; exact hn193_3) | (show (Addr.add _ _).block ≠ _; rw [add_block]; exact hn193_3) | exact hn193_3) (.float .f64 ((rd_T56 l0 x5_1).f3))).trans hx193_0; replace hx193_1 := (cell_far (p := ⟨gb192, 3, none⟩) (by first | (rw [add_block]; exact hn193_3) | (show (Addr.add _ _).block ≠ _; rw [add_block]; exact hn193_3) | exact hn193_3) (.float .f64 ((rd_T56 l0 x5_1).f3))).trans hx193_1; replace hx193_2 := (cell_far (p := ⟨gb192, 3, none⟩) (by first | (rw [add_block]; exact hn193_3) | (show (Addr.add _ _).block ≠ _; rw [add_block]; exact hn193_3) | exact hn193_3) (.float .f64 ((rd_T56 l0 x5_1).f3))).trans hx193_2; replace hx193_3 := (cell_far (p := ⟨gb192, 3, none⟩) (by first | (rw [add_block]; exact hn193_3) | (show (Addr.add _ _).block ≠ _; rw [add_block]; exact hn193_3) | exact hn193_3) (.float .f64 ((rd_T56 l0 x5_1).f3))).trans hx193_3; replace hx193_4 := (cell_far (p := ⟨gb192, 3, none⟩) (by first | (rw [add_block]; exact hn193_3) | (show (Addr.add _ _).block ≠ _; rw [add_block]; exact hn193_3) | exact hn193_3) (.float .f64 ((rd_T56 l0 x5_1).f3))).trans hx193_4; replace hx193_0 := (cell_far (p := ⟨gb192, 4, none⟩) (by first | (rw [add_block]; exact hn193_4) | (show (Addr.add _ _).block ≠ _; rw [add_block]; exact hn193_4) | exact hn193_4) (.int .i64 ((rd_T56 l0 x5_1).f4))).trans hx193_0; replace hx193_1 := (cell_far (p := ⟨gb192, 4, none⟩) (by first | (rw [add_block]; exact hn193_4) | (show (Addr.add _ _).block ≠ _; rw [add_block]; exact hn193_4) | exact hn193_4) (.int .i64 ((rd_T56 l0 x5_1).f4))).trans hx193_1; replace hx193_2 := (cell_far (p := ⟨gb192, 4, none⟩) (by first | (rw [add_block]; exact hn193_4) | (show (Addr.add _ _).block ≠ _; rw [add_block]; exact hn193_4) | exact hn193_4) (.int .i64 ((rd_T56 l0 x5_1).f4))).trans hx193_2; replace hx193_3 := (cell_far (p := ⟨gb192, 4, none⟩) (by first | (rw [add_block]; exact hn193_4) | (show (Addr.add _ _).block ≠ _; rw [add_block]; exact hn193_4) | exact hn193_4) (.int .i64 ((rd_T56 l0 x5_1).f4))).trans hx193_3; replace hx193_4 := (cell_far (p := ⟨gb192, 4, none⟩) (by first | (rw [add_block]; exact hn193_4) | (show (Addr.add _ _).block ≠ _; rw [add_block]; exact hn193_4) | exact hn193_4) (.int .i64 ((rd_T56 l0 x5_1).f4))).trans hx193_4; (try have hy193_0 := fun (n_ : Nat) => (show (((((((w8.drewN n_).setCell ⟨gb192, 0, none⟩ (.int .i64 ((rd_T56 l0 x5_1).f0))).setCell ⟨gb192, 1, none⟩ (.int .i64 ((rd_T56 l0 x5_1).f1))).setCell ⟨gb192, 2, none⟩ (.float .f64 ((rd_T56 l0 x5_1).f2))).setCell ⟨gb192, 3, none⟩ (.float .f64 ((rd_T56 l0 x5_1).f3))).setCell ⟨gb192, 4, none⟩ (.int .i64 ((rd_T56 l0 x5_1).f4)))).cell? _ = some _ from hx193_0)); (try have hy193_1 := fun (n_ : Nat) => (show (((((((w8.drewN n_).setCell ⟨gb192, 0, none⟩ (.int .i64 ((rd_T56 l0 x5_1).f0))).setCell ⟨gb192, 1, none⟩ (.int .i64 ((rd_T56 l0 x5_1).f1))).setCell ⟨gb192, 2, none⟩ (.float .f64 ((rd_T56 l0 x5_1).f2))).setCell ⟨gb192, 3, none⟩ (.float .f64 ((rd_T56 l0 x5_1).f3))).setCell ⟨gb192, 4, none⟩ (.int .i64 ((rd_T56 l0 x5_1).f4)))).cell? _ = some _ from hx193_1)); (try have hy193_2 := fun (n_ : Nat) => (show (((((((w8.drewN n_).setCell ⟨gb192, 0, none⟩ (.int .i64 ((rd_T56 l0 x5_1).f0))).setCell ⟨gb192, 1, none⟩ (.int .i64 ((rd_T56 l0 x5_1).f1))).setCell ⟨gb192, 2, none⟩ (.float .f64 ((rd_T56 l0 x5_1).f2))).setCell ⟨gb192, 3, none⟩ (.float .f64 ((rd_T56 l0 x5_1).f3))).setCell ⟨gb192, 4, none⟩ (.int .i64 ((rd_T56 l0 x5_1).f4)))).cell? _ = some _ from hx193_2)); (try have hy193_3 := fun (n_ : Nat) => (show (((((((w8.drewN n_).setCell ⟨gb192, 0, none⟩ (.int .i64 ((rd_T56 l0 x5_1).f0))).setCell ⟨gb192, 1, none⟩ (.int .i64 ((rd_T56 l0 x5_1).f1))).setCell ⟨gb192, 2, none⟩ (.float .f64 ((rd_T56 l0 x5_1).f2))).setCell ⟨gb192, 3, none⟩ (.float .f64 ((rd_T56 l0 x5_1).f3))).setCell ⟨gb192, 4, none⟩ (.int .i64 ((rd_T56 l0 x5_1).f4)))).cell? _ = some _ from hx193_3)); (try have hy193_4 := fun (n_ : Nat) => (show (((((((w8.drewN n_).setCell ⟨gb192, 0, none⟩ (.int .i64 ((rd_T56 l0 x5_1).f0))).setCell ⟨gb192, 1, none⟩ (.int .i64 ((rd_T56 l0 x5_1).f1))).setCell ⟨gb192, 2, none⟩ (.float .f64 ((rd_T56 l0 x5_1).f2))).setCell ⟨gb192, 3, none⟩ (.float .f64 ((rd_T56 l0 x5_1).f3))).setCell ⟨gb192, 4, none⟩ (.int .i64 ((rd_T56 l0 x5_1).f4)))).cell? _ = some _ from hx193_4)); clear hn193_0; clear hn193_1; clear hn193_2; clear hn193_3; clear hn193_4; replace p193 := eq_true p193; replace q193 := eq_true q193) | ((with_reducible refine gate_dst (N := 7) rfl ?_); refine bz_ (N := 7) #[.int .i64 0, .int .i64 0, .float .f64 0, .float .f64 0, .int .i64 0] 56 ?_; intro gb194 hg w10 hbox hb; have n0_ := Aside0.mk (blk_below (g := gb192) (o := .cells #[.int .i64 ((rd_T56 l0 x5_1).f0), .int .i64 ((rd_T56 l0 x5_1).f1), .float .f64 ((rd_T56 l0 x5_1).f2), .float .f64 ((rd_T56 l0 x5_1).f3), .int .i64 ((rd_T56 l0 x5_1).f4)] 56 (0, 0)) (kp BK192.out) hb); have n1_ := Aside0.mk (below_step (fb1 GE192) hb); have n2_ := Aside0.mk (hbox); have n3_ := Aside0.mk ((by rw [hg]; exact (below_size (fb1 GE192)) : w.heap.size ≤ gb194)); have n4_ := Aside0.mk ((by rw [hg]; exact (below_size (fb1 GE192)) : w.heap.size ≤ gb194)); have n5_ := Aside0.mk ((by rw [hg]; exact Nat.ne_of_lt (blk_lt (g := gb192) (o := .cells #[.int .i64 ((rd_T56 l0 x5_1).f0), .int .i64 ((rd_T56 l0 x5_1).f1), .float .f64 ((rd_T56 l0 x5_1).f2), .float .f64 ((rd_T56 l0 x5_1).f3), .int .i64 ((rd_T56 l0 x5_1).f4)] 56 (0, 0)) (kp BK192.out)) : gb192 ≠ gb194)); have n6_ := Aside0.mk ((by rw [hg]; exact Nat.ne_of_gt (blk_lt (g := gb192) (o := .cells #[.int .i64 ((rd_T56 l0 x5_1).f0), .int .i64 ((rd_T56 l0 x5_1).f1), .float .f64 ((rd_T56 l0 x5_1).f2), .float .f64 ((rd_T56 l0 x5_1).f3), .int .i64 ((rd_T56 l0 x5_1).f4)] 56 (0, 0)) (kp BK192.out)) : gb194 ≠ gb192)); clear BK192; clear HB; have BK192 := n0_; have HB := n1_; have BK194 := n2_; have GW194 := n3_; have GE194 := n4_; have NB192_194 := n5_; have NB194_192 := n6_; clear n0_ n1_ n2_ n3_ n4_ n5_ n6_; clear hb hbox hg; have hnb11 := NB194_192.out; have hnc11 := NB192_194.out; obtain ⟨hcz12_0, hcz12_1, hcz12_2, hcz12_3, hcz12_4, hfz12_0, hfz12_1, hfz12_2, hfz12_3, hfz12_4⟩ := cz5 BK194.out))
       repeat (go_quiet (first | ((with_reducible refine gate_dst (N := 6) rfl ?_); refine bx_ (N := 6) #[.int .i64 0, .int .i64 0, .float .f64 0, .float .f64 0, .int .i64 0] 56 ⟨fb⟩ ?_; clear HB; intro gb192 w8 HB BK192 GE192; have GW192 := GE192; obtain ⟨hcz9_0, hcz9_1, hcz9_2, hcz9_3, hcz9_4, hfz9_0, hfz9_1, hfz9_2, hfz9_3, hfz9_4⟩ := cz5 BK192.out; have p193 : 0 ≤ (x5_1 : Int) := of_decide_eq_true (by first | (with_reducible assumption) | assumption); have q193 : x5_1 < (l1.length : Int) := of_decide_eq_true (by first | (with_reducible assumption) | assumption); obtain ⟨ad193, e193, hx193_0, hx193_1, hx193_2, hx193_3, hx193_4⟩ := at_T56 HR1.out x5_1 p193 q193; cases e193; have hn193_0 : ad193.block ≠ gb192 := Nat.ne_of_lt (Nat.lt_of_lt_of_le (by have := World.block_lt_of_cell? _ _ hx193_0; first | rwa [add_block] at this | exact this) GW192.out); have hn193_1 : ad193.block ≠ gb192 := Nat.ne_of_lt (Nat.lt_of_lt_of_le (by have := World.block_lt_of_cell? _ _ hx193_0; first | rwa [add_block] at this | exact this) GW192.out); have hn193_2 : ad193.block ≠ gb192 := Nat.ne_of_lt (Nat.lt_of_lt_of_le (by have := World.block_lt_of_cell? _ _ hx193_0; first | rwa [add_block] at this | exact this) GW192.out); have hn193_3 : ad193.block ≠ gb192 := Nat.ne_of_lt (Nat.lt_of_lt_of_le (by have := World.block_lt_of_cell? _ _ hx193_0; first | rwa [add_block] at this | exact this) GW192.out); have hn193_4 : ad193.block ≠ gb192 := Nat.ne_of_lt (Nat.lt_of_lt_of_le (by have := World.block_lt_of_cell? _ _ hx193_0; first | rwa [add_block] at this | exact this) GW192.out); replace hx193_0 := pw_cell_below HB.out hx193_0; replace hx193_1 := pw_cell_below HB.out hx193_1; replace hx193_2 := pw_cell_below HB.out hx193_2; replace hx193_3 := pw_cell_below HB.out hx193_3; replace hx193_4 := pw_cell_below HB.out hx193_4; replace hx193_0 := (cell_far (p := ⟨gb192, 0, none⟩) (by first | (rw [add_block]; exact hn193_0) | (show (Addr.add _ _).block ≠ _; rw [add_block]; exact hn193_0) | exact hn193_0) (.int .i64 ((rd_T56 l0 x5_1).f0))).trans hx193_0; replace hx193_1 := (cell_far (p := ⟨gb192, 0, none⟩) (by first | (rw [add_block]; exact hn193_0) | (show (Addr.add _ _).block ≠ _; rw [add_block]; exact hn193_0) | exact hn193_0) (.int .i64 ((rd_T56 l0 x5_1).f0))).trans hx193_1; replace hx193_2 := (cell_far (p := ⟨gb192, 0, none⟩) (by first | (rw [add_block]; exact hn193_0) | (show (Addr.add _ _).block ≠ _; rw [add_block]; exact hn193_0) | exact hn193_0) (.int .i64 ((rd_T56 l0 x5_1).f0))).trans hx193_2; replace hx193_3 := (cell_far (p := ⟨gb192, 0, none⟩) (by first | (rw [add_block]; exact hn193_0) | (show (Addr.add _ _).block ≠ _; rw [add_block]; exact hn193_0) | exact hn193_0) (.int .i64 ((rd_T56 l0 x5_1).f0))).trans hx193_3; replace hx193_4 := (cell_far (p := ⟨gb192, 0, none⟩) (by first | (rw [add_block]; exact hn193_0) | (show (Addr.add _ _).block ≠ _; rw [add_block]; exact hn193_0) | exact hn193_0) (.int .i64 ((rd_T56 l0 x5_1).f0))).trans hx193_4; replace hx193_0 := (cell_far (p := ⟨gb192, 1, none⟩) (by first | (rw [add_block]; exact hn193_1) | (show (Addr.add _ _).block ≠ _; rw [add_block]; exact hn193_1) | exact hn193_1) (.int .i64 ((rd_T56 l0 x5_1).f1))).trans hx193_0; replace hx193_1 := (cell_far (p := ⟨gb192, 1, none⟩) (by first | (rw [add_block]; exact hn193_1) | (show (Addr.add _ _).block ≠ _; rw [add_block]; exact hn193_1) | exact hn193_1) (.int .i64 ((rd_T56 l0 x5_1).f1))).trans hx193_1; replace hx193_2 := (cell_far (p := ⟨gb192, 1, none⟩) (by first | (rw [add_block]; exact hn193_1) | (show (Addr.add _ _).block ≠ _; rw [add_block]; exact hn193_1) | exact hn193_1) (.int .i64 ((rd_T56 l0 x5_1).f1))).trans hx193_2; replace hx193_3 := (cell_far (p := ⟨gb192, 1, none⟩) (by first | (rw [add_block]; exact hn193_1) | (show (Addr.add _ _).block ≠ _; rw [add_block]; exact hn193_1) | exact hn193_1) (.int .i64 ((rd_T56 l0 x5_1).f1))).trans hx193_3; replace hx193_4 := (cell_far (p := ⟨gb192, 1, none⟩) (by first | (rw [add_block]; exact hn193_1) | (show (Addr.add _ _).block ≠ _; rw [add_block]; exact hn193_1) | exact hn193_1) (.int .i64 ((rd_T56 l0 x5_1).f1))).trans hx193_4; replace hx193_0 := (cell_far (p := ⟨gb192, 2, none⟩) (by first | (rw [add_block]; exact hn193_2) | (show (Addr.add _ _).block ≠ _; rw [add_block]; exact hn193_2) | exact hn193_2) (.float .f64 ((rd_T56 l0 x5_1).f2))).trans hx193_0; replace hx193_1 := (cell_far (p := ⟨gb192, 2, none⟩) (by first | (rw [add_block]; exact hn193_2) | (show (Addr.add _ _).block ≠ _; rw [add_block]; exact hn193_2) | exact hn193_2) (.float .f64 ((rd_T56 l0 x5_1).f2))).trans hx193_1; replace hx193_2 := (cell_far (p := ⟨gb192, 2, none⟩) (by first | (rw [add_block]; exact hn193_2) | (show (Addr.add _ _).block ≠ _; rw [add_block]; exact hn193_2) | exact hn193_2) (.float .f64 ((rd_T56 l0 x5_1).f2))).trans hx193_2; replace hx193_3 := (cell_far (p := ⟨gb192, 2, none⟩) (by first | (rw [add_block]; exact hn193_2) | (show (Addr.add _ _).block ≠ _; rw [add_block]; exact hn193_2) | exact hn193_2) (.float .f64 ((rd_T56 l0 x5_1).f2))).trans hx193_3; replace hx193_4 := (cell_far (p := ⟨gb192, 2, none⟩) (by first | (rw [add_block]; exact hn193_2) | (show (Addr.add _ _).block ≠ _; rw [add_block]; exact hn193_2) | exact hn193_2) (.float .f64 ((rd_T56 l0 x5_1).f2))).trans hx193_4; replace hx193_0 := (cell_far (p := ⟨gb192, 3, none⟩) (by first | (rw [add_block]; exact hn193_3) | (show (Addr.add _ _).block ≠ _; rw [add_block]; exact hn193_3) | exact hn193_3) (.float .f64 ((rd_T56 l0 x5_1).f3))).trans hx193_0; replace hx193_1 := (cell_far (p := ⟨gb192, 3, none⟩) (by first | (rw [add_block]; exact hn193_3) | (show (Addr.add _ _).block ≠ _; rw [add_block]; exact hn193_3) | exact hn193_3) (.float .f64 ((rd_T56 l0 x5_1).f3))).trans hx193_1; replace hx193_2 := (cell_far (p := ⟨gb192, 3, none⟩) (by first | (rw [add_block]; exact hn193_3) | (show (Addr.add _ _).block ≠ _; rw [add_block]; exact hn193_3) | exact hn193_3) (.float .f64 ((rd_T56 l0 x5_1).f3))).trans hx193_2; replace hx193_3 := (cell_far (p := ⟨gb192, 3, none⟩) (by first | (rw [add_block]; exact hn193_3) | (show (Addr.add _ _).block ≠ _; rw [add_block]; exact hn193_3) | exact hn193_3) (.float .f64 ((rd_T56 l0 x5_1).f3))).trans hx193_3; replace hx193_4 := (cell_far (p := ⟨gb192, 3, none⟩) (by first | (rw [add_block]; exact hn193_3) | (show (Addr.add _ _).block ≠ _; rw [add_block]; exact hn193_3) | exact hn193_3) (.float .f64 ((rd_T56 l0 x5_1).f3))).trans hx193_4; replace hx193_0 := (cell_far (p := ⟨gb192, 4, none⟩) (by first | (rw [add_block]; exact hn193_4) | (show (Addr.add _ _).block ≠ _; rw [add_block]; exact hn193_4) | exact hn193_4) (.int .i64 ((rd_T56 l0 x5_1).f4))).trans hx193_0; replace hx193_1 := (cell_far (p := ⟨gb192, 4, none⟩) (by first | (rw [add_block]; exact hn193_4) | (show (Addr.add _ _).block ≠ _; rw [add_block]; exact hn193_4) | exact hn193_4) (.int .i64 ((rd_T56 l0 x5_1).f4))).trans hx193_1; replace hx193_2 := (cell_far (p := ⟨gb192, 4, none⟩) (by first | (rw [add_block]; exact hn193_4) | (show (Addr.add _ _).block ≠ _; rw [add_block]; exact hn193_4) | exact hn193_4) (.int .i64 ((rd_T56 l0 x5_1).f4))).trans hx193_2; replace hx193_3 := (cell_far (p := ⟨gb192, 4, none⟩) (by first | (rw [add_block]; exact hn193_4) | (show (Addr.add _ _).block ≠ _; rw [add_block]; exact hn193_4) | exact hn193_4) (.int .i64 ((rd_T56 l0 x5_1).f4))).trans hx193_3; replace hx193_4 := (cell_far (p := ⟨gb192, 4, none⟩) (by first | (rw [add_block]; exact hn193_4) | (show (Addr.add _ _).block ≠ _; rw [add_block]; exact hn193_4) | exact hn193_4) (.int .i64 ((rd_T56 l0 x5_1).f4))).trans hx193_4; (try have hy193_0 := fun (n_ : Nat) => (show (((((((w8.drewN n_).setCell ⟨gb192, 0, none⟩ (.int .i64 ((rd_T56 l0 x5_1).f0))).setCell ⟨gb192, 1, none⟩ (.int .i64 ((rd_T56 l0 x5_1).f1))).setCell ⟨gb192, 2, none⟩ (.float .f64 ((rd_T56 l0 x5_1).f2))).setCell ⟨gb192, 3, none⟩ (.float .f64 ((rd_T56 l0 x5_1).f3))).setCell ⟨gb192, 4, none⟩ (.int .i64 ((rd_T56 l0 x5_1).f4)))).cell? _ = some _ from hx193_0)); (try have hy193_1 := fun (n_ : Nat) => (show (((((((w8.drewN n_).setCell ⟨gb192, 0, none⟩ (.int .i64 ((rd_T56 l0 x5_1).f0))).setCell ⟨gb192, 1, none⟩ (.int .i64 ((rd_T56 l0 x5_1).f1))).setCell ⟨gb192, 2, none⟩ (.float .f64 ((rd_T56 l0 x5_1).f2))).setCell ⟨gb192, 3, none⟩ (.float .f64 ((rd_T56 l0 x5_1).f3))).setCell ⟨gb192, 4, none⟩ (.int .i64 ((rd_T56 l0 x5_1).f4)))).cell? _ = some _ from hx193_1)); (try have hy193_2 := fun (n_ : Nat) => (show (((((((w8.drewN n_).setCell ⟨gb192, 0, none⟩ (.int .i64 ((rd_T56 l0 x5_1).f0))).setCell ⟨gb192, 1, none⟩ (.int .i64 ((rd_T56 l0 x5_1).f1))).setCell ⟨gb192, 2, none⟩ (.float .f64 ((rd_T56 l0 x5_1).f2))).setCell ⟨gb192, 3, none⟩ (.float .f64 ((rd_T56 l0 x5_1).f3))).setCell ⟨gb192, 4, none⟩ (.int .i64 ((rd_T56 l0 x5_1).f4)))).cell? _ = some _ from hx193_2)); (try have hy193_3 := fun (n_ : Nat) => (show (((((((w8.drewN n_).setCell ⟨gb192, 0, none⟩ (.int .i64 ((rd_T56 l0 x5_1).f0))).setCell ⟨gb192, 1, none⟩ (.int .i64 ((rd_T56 l0 x5_1).f1))).setCell ⟨gb192, 2, none⟩ (.float .f64 ((rd_T56 l0 x5_1).f2))).setCell ⟨gb192, 3, none⟩ (.float .f64 ((rd_T56 l0 x5_1).f3))).setCell ⟨gb192, 4, none⟩ (.int .i64 ((rd_T56 l0 x5_1).f4)))).cell? _ = some _ from hx193_3)); (try have hy193_4 := fun (n_ : Nat) => (show (((((((w8.drewN n_).setCell ⟨gb192, 0, none⟩ (.int .i64 ((rd_T56 l0 x5_1).f0))).setCell ⟨gb192, 1, none⟩ (.int .i64 ((rd_T56 l0 x5_1).f1))).setCell ⟨gb192, 2, none⟩ (.float .f64 ((rd_T56 l0 x5_1).f2))).setCell ⟨gb192, 3, none⟩ (.float .f64 ((rd_T56 l0 x5_1).f3))).setCell ⟨gb192, 4, none⟩ (.int .i64 ((rd_T56 l0 x5_1).f4)))).cell? _ = some _ from hx193_4)); clear hn193_0; clear hn193_1; clear hn193_2; clear hn193_3; clear hn193_4; replace p193 := eq_true p193; replace q193 := eq_true q193) | ((with_reducible refine gate_dst (N := 7) rfl ?_); refine bz_ (N := 7) #[.int .i64 0, .int .i64 0, .float .f64 0, .float .f64 0, .int .i64 0] 56 ?_; intro gb194 hg w10 hbox hb; have n0_ := Aside0.mk (blk_below (g := gb192) (o := .cells #[.int .i64 ((rd_T56 l0 x5_1).f0), .int .i64 ((rd_T56 l0 x5_1).f1), .float .f64 ((rd_T56 l0 x5_1).f2), .float .f64 ((rd_T56 l0 x5_1).f3), .int .i64 ((rd_T56 l0 x5_1).f4)] 56 (0, 0)) (kp BK192.out) hb); have n1_ := Aside0.mk (below_step (fb1 GE192) hb); have n2_ := Aside0.mk (hbox); have n3_ := Aside0.mk ((by rw [hg]; exact (below_size (fb1 GE192)) : w.heap.size ≤ gb194)); have n4_ := Aside0.mk ((by rw [hg]; exact (below_size (fb1 GE192)) : w.heap.size ≤ gb194)); have n5_ := Aside0.mk ((by rw [hg]; exact Nat.ne_of_lt (blk_lt (g := gb192) (o := .cells #[.int .i64 ((rd_T56 l0 x5_1).f0), .int .i64 ((rd_T56 l0 x5_1).f1), .float .f64 ((rd_T56 l0 x5_1).f2), .float .f64 ((rd_T56 l0 x5_1).f3), .int .i64 ((rd_T56 l0 x5_1).f4)] 56 (0, 0)) (kp BK192.out)) : gb192 ≠ gb194)); have n6_ := Aside0.mk ((by rw [hg]; exact Nat.ne_of_gt (blk_lt (g := gb192) (o := .cells #[.int .i64 ((rd_T56 l0 x5_1).f0), .int .i64 ((rd_T56 l0 x5_1).f1), .float .f64 ((rd_T56 l0 x5_1).f2), .float .f64 ((rd_T56 l0 x5_1).f3), .int .i64 ((rd_T56 l0 x5_1).f4)] 56 (0, 0)) (kp BK192.out)) : gb194 ≠ gb192)); clear BK192; clear HB; have BK192 := n0_; have HB := n1_; have BK194 := n2_; have GW194 := n3_; have GE194 := n4_; have NB192_194 := n5_; have NB194_192 := n6_; clear n0_ n1_ n2_ n3_ n4_ n5_ n6_; clear hb hbox hg; have hnb11 := NB194_192.out; have hnc11 := NB192_194.out; obtain ⟨hcz12_0, hcz12_1, hcz12_2, hcz12_3, hcz12_4, hfz12_0, hfz12_1, hfz12_2, hfz12_3, hfz12_4⟩ := cz5 BK194.out)); go_upto_region 8 with (first | ((with_reducible refine gate_dst (N := 6) rfl ?_); refine bx_ (N := 6) #[.int .i64 0, .int .i64 0, .float .f64 0, .float .f64 0, .int .i64 0] 56 ⟨fb⟩ ?_; clear HB; intro gb192 w8 HB BK192 GE192; have GW192 := GE192; obtain ⟨hcz9_0, hcz9_1, hcz9_2, hcz9_3, hcz9_4, hfz9_0, hfz9_1, hfz9_2, hfz9_3, hfz9_4⟩ := cz5 BK192.out; have p193 : 0 ≤ (x5_1 : Int) := of_decide_eq_true (by first | (with_reducible assumption) | assumption); have q193 : x5_1 < (l1.length : Int) := of_decide_eq_true (by first | (with_reducible assumption) | assumption); obtain ⟨ad193, e193, hx193_0, hx193_1, hx193_2, hx193_3, hx193_4⟩ := at_T56 HR1.out x5_1 p193 q193; cases e193; have hn193_0 : ad193.block ≠ gb192 := Nat.ne_of_lt (Nat.lt_of_lt_of_le (by have := World.block_lt_of_cell? _ _ hx193_0; first | rwa [add_block] at this | exact this) GW192.out); have hn193_1 : ad193.block ≠ gb192 := Nat.ne_of_lt (Nat.lt_of_lt_of_le (by have := World.block_lt_of_cell? _ _ hx193_0; first | rwa [add_block] at this | exact this) GW192.out); have hn193_2 : ad193.block ≠ gb192 := Nat.ne_of_lt (Nat.lt_of_lt_of_le (by have := World.block_lt_of_cell? _ _ hx193_0; first | rwa [add_block] at this | exact this) GW192.out); have hn193_3 : ad193.block ≠ gb192 := Nat.ne_of_lt (Nat.lt_of_lt_of_le (by have := World.block_lt_of_cell? _ _ hx193_0; first | rwa [add_block] at this | exact this) GW192.out); have hn193_4 : ad193.block ≠ gb192 := Nat.ne_of_lt (Nat.lt_of_lt_of_le (by have := World.block_lt_of_cell? _ _ hx193_0; first | rwa [add_block] at this | exact this) GW192.out); replace hx193_0 := pw_cell_below HB.out hx193_0; replace hx193_1 := pw_cell_below HB.out hx193_1; replace hx193_2 := pw_cell_below HB.out hx193_2; replace hx193_3 := pw_cell_below HB.out hx193_3; replace hx193_4 := pw_cell_below HB.out hx193_4; replace hx193_0 := (cell_far (p := ⟨gb192, 0, none⟩) (by first | (rw [add_block]; exact hn193_0) | (show (Addr.add _ _).block ≠ _; rw [add_block]; exact hn193_0) | exact hn193_0) (.int .i64 ((rd_T56 l0 x5_1).f0))).trans hx193_0; replace hx193_1 := (cell_far (p := ⟨gb192, 0, none⟩) (by first | (rw [add_block]; exact hn193_0) | (show (Addr.add _ _).block ≠ _; rw [add_block]; exact hn193_0) | exact hn193_0) (.int .i64 ((rd_T56 l0 x5_1).f0))).trans hx193_1; replace hx193_2 := (cell_far (p := ⟨gb192, 0, none⟩) (by first | (rw [add_block]; exact hn193_0) | (show (Addr.add _ _).block ≠ _; rw [add_block]; exact hn193_0) | exact hn193_0) (.int .i64 ((rd_T56 l0 x5_1).f0))).trans hx193_2; replace hx193_3 := (cell_far (p := ⟨gb192, 0, none⟩) (by first | (rw [add_block]; exact hn193_0) | (show (Addr.add _ _).block ≠ _; rw [add_block]; exact hn193_0) | exact hn193_0) (.int .i64 ((rd_T56 l0 x5_1).f0))).trans hx193_3; replace hx193_4 := (cell_far (p := ⟨gb192, 0, none⟩) (by first | (rw [add_block]; exact hn193_0) | (show (Addr.add _ _).block ≠ _; rw [add_block]; exact hn193_0) | exact hn193_0) (.int .i64 ((rd_T56 l0 x5_1).f0))).trans hx193_4; replace hx193_0 := (cell_far (p := ⟨gb192, 1, none⟩) (by first | (rw [add_block]; exact hn193_1) | (show (Addr.add _ _).block ≠ _; rw [add_block]; exact hn193_1) | exact hn193_1) (.int .i64 ((rd_T56 l0 x5_1).f1))).trans hx193_0; replace hx193_1 := (cell_far (p := ⟨gb192, 1, none⟩) (by first | (rw [add_block]; exact hn193_1) | (show (Addr.add _ _).block ≠ _; rw [add_block]; exact hn193_1) | exact hn193_1) (.int .i64 ((rd_T56 l0 x5_1).f1))).trans hx193_1; replace hx193_2 := (cell_far (p := ⟨gb192, 1, none⟩) (by first | (rw [add_block]; exact hn193_1) | (show (Addr.add _ _).block ≠ _; rw [add_block]; exact hn193_1) | exact hn193_1) (.int .i64 ((rd_T56 l0 x5_1).f1))).trans hx193_2; replace hx193_3 := (cell_far (p := ⟨gb192, 1, none⟩) (by first | (rw [add_block]; exact hn193_1) | (show (Addr.add _ _).block ≠ _; rw [add_block]; exact hn193_1) | exact hn193_1) (.int .i64 ((rd_T56 l0 x5_1).f1))).trans hx193_3; replace hx193_4 := (cell_far (p := ⟨gb192, 1, none⟩) (by first | (rw [add_block]; exact hn193_1) | (show (Addr.add _ _).block ≠ _; rw [add_block]; exact hn193_1) | exact hn193_1) (.int .i64 ((rd_T56 l0 x5_1).f1))).trans hx193_4; replace hx193_0 := (cell_far (p := ⟨gb192, 2, none⟩) (by first | (rw [add_block]; exact hn193_2) | (show (Addr.add _ _).block ≠ _; rw [add_block]; exact hn193_2) | exact hn193_2) (.float .f64 ((rd_T56 l0 x5_1).f2))).trans hx193_0; replace hx193_1 := (cell_far (p := ⟨gb192, 2, none⟩) (by first | (rw [add_block]; exact hn193_2) | (show (Addr.add _ _).block ≠ _; rw [add_block]; exact hn193_2) | exact hn193_2) (.float .f64 ((rd_T56 l0 x5_1).f2))).trans hx193_1; replace hx193_2 := (cell_far (p := ⟨gb192, 2, none⟩) (by first | (rw [add_block]; exact hn193_2) | (show (Addr.add _ _).block ≠ _; rw [add_block]; exact hn193_2) | exact hn193_2) (.float .f64 ((rd_T56 l0 x5_1).f2))).trans hx193_2; replace hx193_3 := (cell_far (p := ⟨gb192, 2, none⟩) (by first | (rw [add_block]; exact hn193_2) | (show (Addr.add _ _).block ≠ _; rw [add_block]; exact hn193_2) | exact hn193_2) (.float .f64 ((rd_T56 l0 x5_1).f2))).trans hx193_3; replace hx193_4 := (cell_far (p := ⟨gb192, 2, none⟩) (by first | (rw [add_block]; exact hn193_2) | (show (Addr.add _ _).block ≠ _; rw [add_block]; exact hn193_2) | exact hn193_2) (.float .f64 ((rd_T56 l0 x5_1).f2))).trans hx193_4; replace hx193_0 := (cell_far (p := ⟨gb192, 3, none⟩) (by first | (rw [add_block]; exact hn193_3) | (show (Addr.add _ _).block ≠ _; rw [add_block]; exact hn193_3) | exact hn193_3) (.float .f64 ((rd_T56 l0 x5_1).f3))).trans hx193_0; replace hx193_1 := (cell_far (p := ⟨gb192, 3, none⟩) (by first | (rw [add_block]; exact hn193_3) | (show (Addr.add _ _).block ≠ _; rw [add_block]; exact hn193_3) | exact hn193_3) (.float .f64 ((rd_T56 l0 x5_1).f3))).trans hx193_1; replace hx193_2 := (cell_far (p := ⟨gb192, 3, none⟩) (by first | (rw [add_block]; exact hn193_3) | (show (Addr.add _ _).block ≠ _; rw [add_block]; exact hn193_3) | exact hn193_3) (.float .f64 ((rd_T56 l0 x5_1).f3))).trans hx193_2; replace hx193_3 := (cell_far (p := ⟨gb192, 3, none⟩) (by first | (rw [add_block]; exact hn193_3) | (show (Addr.add _ _).block ≠ _; rw [add_block]; exact hn193_3) | exact hn193_3) (.float .f64 ((rd_T56 l0 x5_1).f3))).trans hx193_3; replace hx193_4 := (cell_far (p := ⟨gb192, 3, none⟩) (by first | (rw [add_block]; exact hn193_3) | (show (Addr.add _ _).block ≠ _; rw [add_block]; exact hn193_3) | exact hn193_3) (.float .f64 ((rd_T56 l0 x5_1).f3))).trans hx193_4; replace hx193_0 := (cell_far (p := ⟨gb192, 4, none⟩) (by first | (rw [add_block]; exact hn193_4) | (show (Addr.add _ _).block ≠ _; rw [add_block]; exact hn193_4) | exact hn193_4) (.int .i64 ((rd_T56 l0 x5_1).f4))).trans hx193_0; replace hx193_1 := (cell_far (p := ⟨gb192, 4, none⟩) (by first | (rw [add_block]; exact hn193_4) | (show (Addr.add _ _).block ≠ _; rw [add_block]; exact hn193_4) | exact hn193_4) (.int .i64 ((rd_T56 l0 x5_1).f4))).trans hx193_1; replace hx193_2 := (cell_far (p := ⟨gb192, 4, none⟩) (by first | (rw [add_block]; exact hn193_4) | (show (Addr.add _ _).block ≠ _; rw [add_block]; exact hn193_4) | exact hn193_4) (.int .i64 ((rd_T56 l0 x5_1).f4))).trans hx193_2; replace hx193_3 := (cell_far (p := ⟨gb192, 4, none⟩) (by first | (rw [add_block]; exact hn193_4) | (show (Addr.add _ _).block ≠ _; rw [add_block]; exact hn193_4) | exact hn193_4) (.int .i64 ((rd_T56 l0 x5_1).f4))).trans hx193_3; replace hx193_4 := (cell_far (p := ⟨gb192, 4, none⟩) (by first | (rw [add_block]; exact hn193_4) | (show (Addr.add _ _).block ≠ _; rw [add_block]; exact hn193_4) | exact hn193_4) (.int .i64 ((rd_T56 l0 x5_1).f4))).trans hx193_4; (try have hy193_0 := fun (n_ : Nat) => (show (((((((w8.drewN n_).setCell ⟨gb192, 0, none⟩ (.int .i64 ((rd_T56 l0 x5_1).f0))).setCell ⟨gb192, 1, none⟩ (.int .i64 ((rd_T56 l0 x5_1).f1))).setCell ⟨gb192, 2, none⟩ (.float .f64 ((rd_T56 l0 x5_1).f2))).setCell ⟨gb192, 3, none⟩ (.float .f64 ((rd_T56 l0 x5_1).f3))).setCell ⟨gb192, 4, none⟩ (.int .i64 ((rd_T56 l0 x5_1).f4)))).cell? _ = some _ from hx193_0)); (try have hy193_1 := fun (n_ : Nat) => (show (((((((w8.drewN n_).setCell ⟨gb192, 0, none⟩ (.int .i64 ((rd_T56 l0 x5_1).f0))).setCell ⟨gb192, 1, none⟩ (.int .i64 ((rd_T56 l0 x5_1).f1))).setCell ⟨gb192, 2, none⟩ (.float .f64 ((rd_T56 l0 x5_1).f2))).setCell ⟨gb192, 3, none⟩ (.float .f64 ((rd_T56 l0 x5_1).f3))).setCell ⟨gb192, 4, none⟩ (.int .i64 ((rd_T56 l0 x5_1).f4)))).cell? _ = some _ from hx193_1)); (try have hy193_2 := fun (n_ : Nat) => (show (((((((w8.drewN n_).setCell ⟨gb192, 0, none⟩ (.int .i64 ((rd_T56 l0 x5_1).f0))).setCell ⟨gb192, 1, none⟩ (.int .i64 ((rd_T56 l0 x5_1).f1))).setCell ⟨gb192, 2, none⟩ (.float .f64 ((rd_T56 l0 x5_1).f2))).setCell ⟨gb192, 3, none⟩ (.float .f64 ((rd_T56 l0 x5_1).f3))).setCell ⟨gb192, 4, none⟩ (.int .i64 ((rd_T56 l0 x5_1).f4)))).cell? _ = some _ from hx193_2)); (try have hy193_3 := fun (n_ : Nat) => (show (((((((w8.drewN n_).setCell ⟨gb192, 0, none⟩ (.int .i64 ((rd_T56 l0 x5_1).f0))).setCell ⟨gb192, 1, none⟩ (.int .i64 ((rd_T56 l0 x5_1).f1))).setCell ⟨gb192, 2, none⟩ (.float .f64 ((rd_T56 l0 x5_1).f2))).setCell ⟨gb192, 3, none⟩ (.float .f64 ((rd_T56 l0 x5_1).f3))).setCell ⟨gb192, 4, none⟩ (.int .i64 ((rd_T56 l0 x5_1).f4)))).cell? _ = some _ from hx193_3)); (try have hy193_4 := fun (n_ : Nat) => (show (((((((w8.drewN n_).setCell ⟨gb192, 0, none⟩ (.int .i64 ((rd_T56 l0 x5_1).f0))).setCell ⟨gb192, 1, none⟩ (.int .i64 ((rd_T56 l0 x5_1).f1))).setCell ⟨gb192, 2, none⟩ (.float .f64 ((rd_T56 l0 x5_1).f2))).setCell ⟨gb192, 3, none⟩ (.float .f64 ((rd_T56 l0 x5_1).f3))).setCell ⟨gb192, 4, none⟩ (.int .i64 ((rd_T56 l0 x5_1).f4)))).cell? _ = some _ from hx193_4)); clear hn193_0; clear hn193_1; clear hn193_2; clear hn193_3; clear hn193_4; replace p193 := eq_true p193; replace q193 := eq_true q193) | ((with_reducible refine gate_dst (N := 7) rfl ?_); refine bz_ (N := 7) #[.int .i64 0, .int .i64 0, .float .f64 0, .float .f64 0, .int .i64 0] 56 ?_; intro gb194 hg w10 hbox hb; have n0_ := Aside0.mk (blk_below (g := gb192) (o := .cells #[.int .i64 ((rd_T56 l0 x5_1).f0), .int .i64 ((rd_T56 l0 x5_1).f1), .float .f64 ((rd_T56 l0 x5_1).f2), .float .f64 ((rd_T56 l0 x5_1).f3), .int .i64 ((rd_T56 l0 x5_1).f4)] 56 (0, 0)) (kp BK192.out) hb); have n1_ := Aside0.mk (below_step (fb1 GE192) hb); have n2_ := Aside0.mk (hbox); have n3_ := Aside0.mk ((by rw [hg]; exact (below_size (fb1 GE192)) : w.heap.size ≤ gb194)); have n4_ := Aside0.mk ((by rw [hg]; exact (below_size (fb1 GE192)) : w.heap.size ≤ gb194)); have n5_ := Aside0.mk ((by rw [hg]; exact Nat.ne_of_lt (blk_lt (g := gb192) (o := .cells #[.int .i64 ((rd_T56 l0 x5_1).f0), .int .i64 ((rd_T56 l0 x5_1).f1), .float .f64 ((rd_T56 l0 x5_1).f2), .float .f64 ((rd_T56 l0 x5_1).f3), .int .i64 ((rd_T56 l0 x5_1).f4)] 56 (0, 0)) (kp BK192.out)) : gb192 ≠ gb194)); have n6_ := Aside0.mk ((by rw [hg]; exact Nat.ne_of_gt (blk_lt (g := gb192) (o := .cells #[.int .i64 ((rd_T56 l0 x5_1).f0), .int .i64 ((rd_T56 l0 x5_1).f1), .float .f64 ((rd_T56 l0 x5_1).f2), .float .f64 ((rd_T56 l0 x5_1).f3), .int .i64 ((rd_T56 l0 x5_1).f4)] 56 (0, 0)) (kp BK192.out)) : gb194 ≠ gb192)); clear BK192; clear HB; have BK192 := n0_; have HB := n1_; have BK194 := n2_; have GW194 := n3_; have GE194 := n4_; have NB192_194 := n5_; have NB194_192 := n6_; clear n0_ n1_ n2_ n3_ n4_ n5_ n6_; clear hb hbox hg; have hnb11 := NB194_192.out; have hnc11 := NB192_194.out; obtain ⟨hcz12_0, hcz12_1, hcz12_2, hcz12_3, hcz12_4, hfz12_0, hfz12_1, hfz12_2, hfz12_3, hfz12_4⟩ := cz5 BK194.out)))
       (try simp only [Act.put, qa, qb, qc])
       go_cut [63] (fun v63 wc => ∃ (kq : Nat) (x63_6 : Bool), v63 = .bool x63_6 ∧ Aside0 (beaconref06_SameNews.j1 kq l0 l1 x5_1 x63_6 = some r) ∧ Aside0 (kq ≤ k1) ∧ Aside0 (wc.heap[gb192]? = some (.cells #[.int .i64 ((rd_T56 l0 x5_1).f0), .int .i64 ((rd_T56 l0 x5_1).f1), .float .f64 ((rd_T56 l0 x5_1).f2), .float .f64 ((rd_T56 l0 x5_1).f3), .int .i64 ((rd_T56 l0 x5_1).f4)] 56 (0, 0))) ∧ Aside0 (wc.heap[gb194]? = some (.cells #[.int .i64 ((rd_T56 l1 x5_1).f0), .int .i64 ((rd_T56 l1 x5_1).f1), .float .f64 ((rd_T56 l1 x5_1).f2), .float .f64 ((rd_T56 l1 x5_1).f3), .int .i64 ((rd_T56 l1 x5_1).f4)] 56 (0, 0))) ∧ Aside0 (Below w.heap.size w wc))
       case first =>
        have H := HC7.out
        clear HC7
        by_cases c13 : ((rd_T56 l0 x5_1).f0) = ((rd_T56 l1 x5_1).f0)
        ·rw [if_pos c13] at H
         have c13b0 := be_ c13
         have c13b1 := bg_ c13
         clear c13
         (first | rw [c13b0] | (simp only [i64_w, i32_w]; rw [c13b0]) | skip)
         by_cases c14 : ((rd_T56 l0 x5_1).f1) = ((rd_T56 l1 x5_1).f1)
         ·rw [if_pos c14] at H
          have c14b0 := be_ c14
          have c14b1 := bg_ c14
          clear c14
          by_cases c15 : ((rd_T56 l0 x5_1).f4) = ((rd_T56 l1 x5_1).f4)
          ·rw [if_pos c15] at H
           have c15b0 := be_ c15
           have c15b1 := bg_ c15
           clear c15
           by_cases c16 : (((rd_T56 l0 x5_1).f2) : Int) = (((rd_T56 l1 x5_1).f2) : Int)
           ·rw [if_pos c16] at H
            have c16b0 := be_ c16
            have c16b1 := bg_ c16
            clear c16
            have H' := Aside0.mk H
            clear H
            have hnb17 := NB192_194.out
            have hnc17 := NB194_192.out
            obtain ⟨hcz18_0, hcz18_1, hcz18_2, hcz18_3, hcz18_4, hfz18_0, hfz18_1, hfz18_2, hfz18_3, hfz18_4⟩ := cz5 BK192.out
            obtain ⟨hcz19_0, hcz19_1, hcz19_2, hcz19_3, hcz19_4, hfz19_0, hfz19_1, hfz19_2, hfz19_3, hfz19_4⟩ := cz5 BK194.out
            go_wp2
            repeat (go_quiet (fail); try go_wp2)
            go_meet
            case rel => exact ⟨_, (((((rd_T56 l0 x5_1).f3) : Int) != (((rd_T56 l1 x5_1).f3) : Int))), fz, H', ⟨by have := HK1.out; exact fl⟩, ⟨kp1 NB192_194 BK192.out⟩, ⟨kp BK194.out⟩, ⟨fb2 GE192 GE194⟩⟩
           ·rw [if_neg c16] at H
            have c16b0 := bh_ c16
            have c16b1 := bi_ c16
            have H' := Aside0.mk H
            clear H
            have hnb20 := NB192_194.out
            have hnc20 := NB194_192.out
            obtain ⟨hcz21_0, hcz21_1, hcz21_2, hcz21_3, hcz21_4, hfz21_0, hfz21_1, hfz21_2, hfz21_3, hfz21_4⟩ := cz5 BK192.out
            obtain ⟨hcz22_0, hcz22_1, hcz22_2, hcz22_3, hcz22_4, hfz22_0, hfz22_1, hfz22_2, hfz22_3, hfz22_4⟩ := cz5 BK194.out
            go_wp2
            repeat (go_quiet (fail); try go_wp2)
            go_meet
            case rel => exact ⟨_, (true), fz, H', ⟨by have := HK1.out; exact fl⟩, ⟨kp1 NB192_194 BK192.out⟩, ⟨kp BK194.out⟩, ⟨fb2 GE192 GE194⟩⟩
          ·rw [if_neg c15] at H
           have c15b0 := bh_ c15
           have c15b1 := bi_ c15
           have H' := Aside0.mk H
           clear H
           have hnb23 := NB192_194.out
           have hnc23 := NB194_192.out
           obtain ⟨hcz24_0, hcz24_1, hcz24_2, hcz24_3, hcz24_4, hfz24_0, hfz24_1, hfz24_2, hfz24_3, hfz24_4⟩ := cz5 BK192.out
           obtain ⟨hcz25_0, hcz25_1, hcz25_2, hcz25_3, hcz25_4, hfz25_0, hfz25_1, hfz25_2, hfz25_3, hfz25_4⟩ := cz5 BK194.out
           go_wp2
           repeat (go_quiet (fail); try go_wp2)
           go_meet
           case rel => exact ⟨_, (true), fz, H', ⟨by have := HK1.out; exact fl⟩, ⟨kp1 NB192_194 BK192.out⟩, ⟨kp BK194.out⟩, ⟨fb2 GE192 GE194⟩⟩
         ·rw [if_neg c14] at H
          have c14b0 := bh_ c14
          have c14b1 := bi_ c14
          have H' := Aside0.mk H
          clear H
          have hnb26 := NB192_194.out
          have hnc26 := NB194_192.out
          obtain ⟨hcz27_0, hcz27_1, hcz27_2, hcz27_3, hcz27_4, hfz27_0, hfz27_1, hfz27_2, hfz27_3, hfz27_4⟩ := cz5 BK192.out
          obtain ⟨hcz28_0, hcz28_1, hcz28_2, hcz28_3, hcz28_4, hfz28_0, hfz28_1, hfz28_2, hfz28_3, hfz28_4⟩ := cz5 BK194.out
          go_wp2
          repeat (go_quiet (fail); try go_wp2)
          go_meet
          case rel => exact ⟨_, (true), fz, H', ⟨by have := HK1.out; exact fl⟩, ⟨kp1 NB192_194 BK192.out⟩, ⟨kp BK194.out⟩, ⟨fb2 GE192 GE194⟩⟩
        ·rw [if_neg c13] at H
         have c13b0 := bh_ c13
         have c13b1 := bi_ c13
         (first | rw [c13b0] | (simp only [i64_w, i32_w]; rw [c13b0]) | skip)
         have H' := Aside0.mk H
         clear H
         have hnb29 := NB192_194.out
         have hnc29 := NB194_192.out
         obtain ⟨hcz30_0, hcz30_1, hcz30_2, hcz30_3, hcz30_4, hfz30_0, hfz30_1, hfz30_2, hfz30_3, hfz30_4⟩ := cz5 BK192.out
         obtain ⟨hcz31_0, hcz31_1, hcz31_2, hcz31_3, hcz31_4, hfz31_0, hfz31_1, hfz31_2, hfz31_3, hfz31_4⟩ := cz5 BK194.out
         go_wp2
         repeat (go_quiet (fail); try go_wp2)
         go_meet
         case rel => exact ⟨_, (true), fz, H', ⟨by have := HK1.out; exact fl⟩, ⟨kp1 NB192_194 BK192.out⟩, ⟨kp BK194.out⟩, ⟨fb2 GE192 GE194⟩⟩
       case rest =>
        clear HC7
        (try clear c1); (try clear c3); (try clear c3b0); (try clear c3b1); (try clear c3b2); (try clear c4); (try clear c4b0); (try clear c5); (try clear c5b0); (try clear c6); (try clear c6b0); (try clear hcz12_0); (try clear hcz12_1); (try clear hcz12_2); (try clear hcz12_3); (try clear hcz12_4); (try clear hcz9_0); (try clear hcz9_1); (try clear hcz9_2); (try clear hcz9_3); (try clear hcz9_4); (try clear hfz12_0); (try clear hfz12_1); (try clear hfz12_2); (try clear hfz12_3); (try clear hfz12_4); (try clear hfz9_0); (try clear hfz9_1); (try clear hfz9_2); (try clear hfz9_3); (try clear hfz9_4); (try clear hx191_0); (try clear hx191_1); (try clear hx191_2); (try clear hx191_3); (try clear hx191_4); (try clear hx193_0); (try clear hx193_1); (try clear hx193_2); (try clear hx193_3); (try clear hx193_4); (try clear p191); (try clear p193); (try clear q191); (try clear q193)
        obtain ⟨kq, x63_6, rfl, HA, HJ6, BK192, BK194, HB⟩ := hcut
        cases kq with
        | zero => exact absurd HA.out (by simp [beaconref06_SameNews.j1])
        | succ kj6 =>
         have H := HA.out
         clear HA
         simp only [beaconref06_SameNews.j1] at H
         by_cases c32 : x63_6 = true
         ·subst c32
          rw [if_pos rfl] at H
          obtain rfl := oj_ H
          go_wp2
          repeat (go_quiet (fail); try go_wp2)
          go_ret
          exact ⟨fe, fb2 GE192 GE194⟩
         ·obtain rfl := bf_ c32
          rw [if_neg nf_] at H
          have H' := Aside0.mk H
          clear H
          go_wp2
          repeat (go_quiet (fail); try go_wp2)
          go_roundg kj6
          case measure => have := HK1.out; have := HJ6.out; omega
          case rel => exact ⟨(wrap64 (x5_1 + 1)), fz, H', ⟨by have := HK1.out; have := HJ6.out; omega⟩, ⟨fb2 GE192 GE194⟩⟩
      ·rw [if_neg c6] at H
       exact absurd H (by simp)
     ·rw [if_neg c5] at H
      exact absurd H (by simp)
    ·rw [if_neg c4] at H
     have c4b0 := decide_eq_false c4
     clear c4
     obtain rfl := oj_ H
     go_wp2
     repeat (go_quiet (fail); try go_wp2)
     go_ret
     exact ⟨fe, fb⟩
 ·rw [if_neg c3] at H
  have c3b0 := bh_ c3
  have c3b1 := bi_ c3
  have c3b2 : (l0.length == l1.length) = false := by first | simpa using c3 | (simp at c3 ⊢; omega)
  obtain rfl := oj_ H
  go_enter Try.func22, Try.ntmps22
  go_wp2
  repeat (go_quiet (fail); try go_wp2)
  go_ret
  exact ⟨fe, fb⟩

/-! ### beaconref15_Entries: function 27 -/
def beaconref15_Entries.l0 : Nat → List (S58) → List (S58) → Int → Option ((List (S58)))
 | 0, _, _, _ => none
 | k + 1, x0, x3, x4 => if x4 < (x0.length : Int) then (if 0 ≤ x4 then (if x3.length < 2932031007402 then (beaconref15_Entries.l0 k x0 (x3 ++ [(⟨(rd_T58 x0 x4).f0, (rd_T58 x0 x4).f1, (rd_T58 x0 x4).f2, (rd_T58 x0 x4).f3, (rd_T58 x0 x4).f4, (rd_T58 x0 x4).f5⟩ : S58)]) (wrap64 (x4 + 1))) else (none)) else (none)) else (some x3)
def beaconref15_Entries.f (k : Nat) (l0 : List (S58)) : Option ((List (S58))) := beaconref15_Entries.l0 k l0 (([] : List (S58))) 0
set_option maxHeartbeats 8000000 in
set_option maxRecDepth 100000 in
theorem beaconref15_Entries.calls (k : Nat) (A0 : Option Addr) (c0 : Nat) (l0 : List (S58)) (r : List (S58)) (w : World) (hr0 : Kd.C k58 w A0 l0.length l0) (hc0 : l0.length ≤ c0) (h : beaconref15_Entries.f k l0 = some r) :
  Calls Try.prog 27 #[.slice A0 l0.length c0] w fun e w' => ∃ v0_ : Value, e = .returned (v0_) ∧ Kd.R k58 58 w' w.heap.size (fun _ => True) v0_ r ∧ Below w.heap.size w w' := by
 have hu58 := Try.underlying58
 have HR0 := Aside0.mk hr0
 have HC0 := Aside0.mk hc0
 clear hr0 hc0
 have HB := Aside0.mk (Below.refl w.heap.size w)
 have H : (beaconref15_Entries.l0 k l0 (([] : List (S58))) 0) = some r := h
 clear h
 obtain ⟨y195, hy195⟩ : ∃ y_ : List (S58), y_ = (([] : List (S58))) := ⟨_, rfl⟩
 replace H : (beaconref15_Entries.l0 k l0 y195 0) = some r := by first | (rw [hy195]; with_reducible exact H) | (have H2_ := (Option.bind_some _ _).symm.trans H; rw [hy195]; with_reducible exact H2_) | (have H2_ := (Option.bind_some _ _).symm.trans H; with_reducible exact H2_) | with_reducible exact H | (rw [hy195]; exact H) | exact H
 have Ny195 := Aside0.mk hy195
 clear hy195
 have H' := Aside0.mk H
 clear H
 go_enter Try.func27, Try.ntmps27
 go_wp2_with (first | ((with_reducible refine gate_dst (N := 5) rfl ?_); refine Kd.R_lit k58 _ 58 ?hg (N := 5) ?hd (xs := ([] : List (S58))) (inner := []) (ok := fun _ => True) (okp := fun _ => True) ?hr ?hp (fun _ hk => hk) trivial (Below.refl _ _) (Nat.le_refl _) (by simp) ?_; (case hd => rfl); (case hg => rfl); (case hr => first | (go_simp; done) | (go_simp; rfl)); (case hp => exact (Reps.none _ _)); intro v196 w2 ho3 hb hg_ hnew_; clear hg_ hnew_; (first | rw [← Ny195.out] at ho3 | (simp only [Int.reduceToNat] at ho3; rw [← Ny195.out] at ho3)); have n0_ := Aside0.mk (Kd.R_lower ho3 (below_size fb)); have n1_ := Aside0.mk (below_step fb hb); clear HB; have HO197 := n0_; have HB := n1_; clear n0_ n1_; clear hb ho3))
 go_loopg [3, 4] k (fun kq v3 v4 w' => ∃ (x3_1 : List (S58)) (x4_1 : Int), v4 = .int .i64 x4_1 ∧ Aside0 (beaconref15_Entries.l0 kq l0 x3_1 x4_1 = some r) ∧ Aside0 (kq ≤ k) ∧ Aside0 (Kd.R k58 58 w' w.heap.size (fun _ => True) v3 x3_1) ∧ Aside0 (Below w.heap.size w w'))
 case atStart => exact ⟨(y195), (0), fz, H', ⟨Nat.le_refl _⟩, ⟨by (with_reducible repeat (first | apply Kd.R_alloc | apply Kd.R_drewN | apply Kd.R_drew)); exact HO197.out⟩, ⟨fb⟩⟩
 case round =>
  clear H'
  obtain ⟨x3_1, x4_1, rfl, HA, HK1, HO_3, HB⟩ := hrel
  cases gk with
  | zero => exact absurd HA.out (by simp [beaconref15_Entries.l0])
  | succ k1 =>
   have H := HA.out
   clear HA
   simp only [beaconref15_Entries.l0] at H
   by_cases c4 : x4_1 < (l0.length : Int)
   ·rw [if_pos c4] at H
    have c4b0 := decide_eq_true c4
    clear c4
    by_cases c5 : 0 ≤ x4_1
    ·rw [if_pos c5] at H
     have c5b0 := decide_eq_true c5
     clear c5
     by_cases c6 : x3_1.length < 2932031007402
     ·rw [if_pos c6] at H
      have LMc6 := Aside0.mk c6
      clear c6
      obtain ⟨y199, hy199⟩ : ∃ y_ : List (S58), y_ = (x3_1 ++ [(⟨(rd_T58 l0 x4_1).f0, (rd_T58 l0 x4_1).f1, (rd_T58 l0 x4_1).f2, (rd_T58 l0 x4_1).f3, (rd_T58 l0 x4_1).f4, (rd_T58 l0 x4_1).f5⟩ : S58)]) := ⟨_, rfl⟩
      replace H : (beaconref15_Entries.l0 k1 l0 y199 (wrap64 (x4_1 + 1))) = some r := by first | (rw [hy199]; with_reducible exact H) | (have H2_ := (Option.bind_some _ _).symm.trans H; rw [hy199]; with_reducible exact H2_) | (have H2_ := (Option.bind_some _ _).symm.trans H; with_reducible exact H2_) | with_reducible exact H | (rw [hy199]; exact H) | exact H
      have Ny199 := Aside0.mk hy199
      clear hy199
      have H' := Aside0.mk H
      clear H
      have p198 : 0 ≤ (x4_1 : Int) := of_decide_eq_true (by first | (with_reducible assumption) | assumption)
      have q198 : x4_1 < (l0.length : Int) := of_decide_eq_true (by first | (with_reducible assumption) | assumption)
      obtain ⟨ad198, e198, hx198_0, hx198_1, hx198_2, hx198_3, hx198_4, hx198_5⟩ := at_T58 HR0.out x4_1 p198 q198
      cases e198
      replace hx198_0 := pw_cell_below HB.out hx198_0
      replace hx198_1 := pw_cell_below HB.out hx198_1
      replace hx198_2 := pw_cell_below HB.out hx198_2
      replace hx198_3 := pw_cell_below HB.out hx198_3
      replace hx198_4 := pw_cell_below HB.out hx198_4
      replace hx198_5 := pw_cell_below HB.out hx198_5
      replace p198 := eq_true p198
      replace q198 := eq_true q198
      go_wp2_with (first | ((with_reducible refine gate_builtin (b := .append) (xs := #[.tmp 12, .tmp 17]) rfl ?_); at_builtin; refine Kd.R_append k58 (w0 := w) w.heap.size rfl (.tmp 12) (.tmp 17) 24 58 (.agg #[(.int .i64 0), (.int .i64 0), (.float .f64 0), (.int .i64 0), (.float .f64 0), (.int .i64 0)]) 48 rfl Try.underlying24 info58 rfl (by decide) (by omega) u3 x3_1 (⟨(rd_T58 l0 x4_1).f0, (rd_T58 l0 x4_1).f1, (rd_T58 l0 x4_1).f2, (rd_T58 l0 x4_1).f3, (rd_T58 l0 x4_1).f4, (rd_T58 l0 x4_1).f5⟩ : S58) [.int .i64 ((rd_T58 l0 x4_1).f0), .int .i64 ((rd_T58 l0 x4_1).f1), .float .f64 ((rd_T58 l0 x4_1).f2), .int .i64 ((rd_T58 l0 x4_1).f3), .float .f64 ((rd_T58 l0 x4_1).f4), .int .i64 ((rd_T58 l0 x4_1).f5)] (fun _ => True) (fun _ => False) rfl rfl ?aP (fun _ hk => hk.elim) ?aF ?aO ?aB ?aS ?aL ?_; (case aP => exact k58_mkM _ _ _ (⟨(rd_T58 l0 x4_1).f0, (rd_T58 l0 x4_1).f1, (rd_T58 l0 x4_1).f2, (rd_T58 l0 x4_1).f3, (rd_T58 l0 x4_1).f4, (rd_T58 l0 x4_1).f5⟩ : S58)); (case aB => exact fb); (case aF => exact (fun _ _ => trivial)); (case aO => exact (by (with_reducible repeat (first | apply Kd.R_alloc | apply Kd.R_drewN | apply Kd.R_drew)); exact HO_3.out)); (case aS => exact (below_size fb)); (case aL => have := LMc6.out; omega); intro v200 w7 ho hb hg hat; rw [← Ny199.out] at ho; have n0_ := Aside0.mk (hb); have n1_ := Aside0.mk (ho); clear HB; clear HO_3; have HB := n0_; have HO201 := n1_; clear n0_ n1_; clear ho hb hg hat))
      go_roundg k1
      case measure => have := HK1.out; omega
      case rel => exact ⟨(y199), (wrap64 (x4_1 + 1)), fz, H', ⟨by have := HK1.out; omega⟩, ⟨by (with_reducible repeat (first | apply Kd.R_alloc | apply Kd.R_drewN | apply Kd.R_drew)); exact HO201.out⟩, ⟨fb⟩⟩
     ·rw [if_neg c6] at H
      exact absurd H (by simp)
    ·rw [if_neg c5] at H
     exact absurd H (by simp)
   ·rw [if_neg c4] at H
    have c4b0 := decide_eq_false c4
    clear c4
    obtain rfl := oj_ H
    go_wp2
    go_ret
    exact ⟨_, by first | rfl | (simp [errW_none, errW_some] <;> rfl) | (simp [*, errW_none, errW_some] <;> rfl), by (with_reducible repeat (first | apply Kd.R_alloc | apply Kd.R_drewN | apply Kd.R_drew)); exact HO_3.out, fb⟩

/-! ### scopedv_Tell_1: function 58 -/

end Go.Proofs.Ytjkhckbfkinheaa.GLt
