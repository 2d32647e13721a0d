-- written by a program of this session (wip/pp): see NOTES.md
import Derived.Test.YtjkhckbfkinheaaGAax0
import Derived.Test.YtjkhckbfkinheaaGAax20
namespace Go.Proofs.Ytjkhckbfkinheaa.GAa
open Go.RowKit Go.Proofs.YtjkhckbfkinheaaW.PrintWords Go.Proofs.YtjkhckbfkinheaaW.PrintLast Go.Proofs.YtjkhckbfkinheaaW.PrintMore
attribute [local go_sem] max2_int min2_int max_two min_two max_three min_three max_four min_four   -- for this text's walks alone
attribute [local go_sem high] binOp_flss binOp_fgtr binOp_fleq binOp_fgeq binOp_feql binOp_fneq run_fadd run_fsub run_fmul run_fquo unary_fneg run_ftoint run_fofint run_feqIn ext_bits ext_frombits ext_trunc
set_option linter.unusedVariables false
set_option linter.unusedSimpArgs false

/-! ### beaconref09_SameHomes: function 29 -/
mutual
def beaconref09_SameHomes.l0 : Nat → List (S34) → List (S34) → Int → Option (Bool)
 | 0, _, _, _ => none
 | k + 1, x0, x1, x5 => if x5 < (x0.length : Int) then (if 0 ≤ x5 then (if x5 < (x1.length : Int) then (if ((rd_T34 x0 x5).f0) = ((rd_T34 x1 x5).f0) then (if ((rd_T34 x0 x5).f1) = ((rd_T34 x1 x5).f1) then ((beaconref01_Same.f ((rd_T34 x0 x5).f2) ((rd_T34 x1 x5).f2)).bind fun t255 => (beaconref09_SameHomes.j1 k x0 x1 x5 (!t255))) else (beaconref09_SameHomes.j1 k x0 x1 x5 true)) else (beaconref09_SameHomes.j1 k x0 x1 x5 true)) else (none)) else (none)) else (some true)
def beaconref09_SameHomes.j1 : Nat → List (S34) → List (S34) → Int → Bool → Option (Bool)
 | 0, _, _, _, _ => none
 | k + 1, x0, x1, x5, x54 => if x54 = true then (some false) else (beaconref09_SameHomes.l0 k x0 x1 (wrap64 (x5 + 1)))
end
def beaconref09_SameHomes.f (k : Nat) (l0 : List (S34)) (l1 : List (S34)) : Option (Bool) := if (l0.length : Int) = (l1.length : Int) then (beaconref09_SameHomes.l0 k l0 l1 0) else (some false)
def beaconref09_SameHomes.T6 : Bool × List (List Nat × List Nat) := (true, [([], []), ([], []), ([0, 1], [0, 1]), ([2], [2]), ([3], [3]), ([], []), ([], []), ([5, 6], [5, 6]), ([7], [7]), ([8], [8]), ([4, 9], [4, 9]), ([10], [10]), ([11], [11]), ([11], [11]), ([12, 13, 11], [11, 12, 13]), ([14, 11], [11, 14]), ([15, 11], [11, 15]), ([11], [11]), ([11], [11]), ([17, 18, 11], [11, 17, 18]), ([19, 11], [11, 19]), ([20, 11], [11, 20]), ([16, 21, 11], [11, 16, 21]), ([11, 22], [11, 22]), ([23, 11], [23]), ([24], [24]), ([24], [24]), ([25, 26, 24], [24, 25, 26]), ([27, 24], [24, 27]), ([28, 24], [24, 28]), ([24], [24]), ([24], [24]), ([30, 31, 24], [24, 30, 31]), ([32, 24], [24, 32]), ([33, 24], [24, 33]), ([29, 34, 24, 24], [24, 29, 34]), ([35, 24], [24, 35]), ([24, 36], [24, 36])])
def beaconref09_SameHomes.B6 : List Nat := [0, 0, 3, 7, 15, 0, 0, 96, 224, 480, 1023, 2047, 4095, 4095, 16383, 32767, 65535, 4095, 4095, 397311, 921599, 1970175, 4194303, 8388607, 16777215, 33554431, 33554431, 134217727, 268435455, 536870911, 33554431, 33554431, 3254779903, 7549747199, 16139681791, 34359738367, 68719476735, 137438953471]
theorem beaconref09_SameHomes.tab6 : rtab .any (opsOf Try.f29 6) = beaconref09_SameHomes.T6 := by kernel_rfl
theorem beaconref09_SameHomes.bits6 : waitsOk beaconref09_SameHomes.T6.2 beaconref09_SameHomes.B6 = true := by kernel_rfl
set_option maxHeartbeats 8000000 in
set_option maxRecDepth 100000 in
theorem beaconref09_SameHomes.calls (k : Nat) (A0 : Option Addr) (c0 : Nat) (l0 : List (S34)) (A1 : Option Addr) (c1 : Nat) (l1 : List (S34)) (r : Bool) (w : World) (hr0 : Kd.C k34 w A0 l0.length l0) (hc0 : l0.length ≤ c0) (hr1 : Kd.C k34 w A1 l1.length l1) (hc1 : l1.length ≤ c1) (h : beaconref09_SameHomes.f k l0 l1 = some r) :
  Calls Try.prog 29 #[.slice A0 l0.length c0, .slice A1 l1.length c1] w fun e w' => e = .returned (.bool r) ∧ Below w.heap.size w w' := by
 have HR0 := Aside0.mk hr0
 have HC0 := Aside0.mk hc0
 clear hr0 hc0
 have HR1 := Aside0.mk hr1
 have HC1 := Aside0.mk hc1
 clear hr1 hc1
 have HB := Aside0.mk (Below.refl w.heap.size w)
 have H : (if (l0.length : Int) = (l1.length : Int) then (beaconref09_SameHomes.l0 k l0 l1 0) else (some false)) = some r := h
 clear h
 by_cases c3 : (l0.length : Int) = (l1.length : Int)
 ·rw [if_pos c3] at H
  have c3b0 := be_ c3
  have c3b1 := bg_ c3
  have c3b2 : (l0.length == l1.length) = true := by first | simpa using c3 | (simp at c3 ⊢; omega)
  clear c3
  have H' := Aside0.mk H
  clear H
  go_enter Try.func29, Try.ntmps29
  go_wp2
  go_loopg [5] k (fun kq v5 w' => ∃ (x5_1 : Int), v5 = .int .i64 x5_1 ∧ Aside0 (beaconref09_SameHomes.l0 kq l0 l1 x5_1 = some r) ∧ Aside0 (kq ≤ k) ∧ Aside0 (Below w.heap.size w w'))
  case atStart => exact ⟨(0), fz, H', ⟨Nat.le_refl _⟩, ⟨fb⟩⟩
  case round =>
   clear H'
   (try clear c1); (try clear c3); (try clear c3b0); (try clear c3b1); (try clear c3b2)
   obtain ⟨x5_1, rfl, HA, HK1, HB⟩ := hrel
   cases gk with
   | zero => exact absurd HA.out (by simp [beaconref09_SameHomes.l0])
   | succ k1 =>
    have H := HA.out
    clear HA
    simp only [beaconref09_SameHomes.l0] at H
    by_cases c4 : x5_1 < (l0.length : Int)
    ·rw [if_pos c4] at H
     have c4b0 := decide_eq_true c4
     clear c4
     have HC5 := Aside0.mk H
     clear H
     go_upto_region 6 with (fail)
     go_cut [54] (fun v54 wc => ∃ (kq : Nat) (x54_4 : Bool), v54 = .bool x54_4 ∧ Aside0 (beaconref09_SameHomes.j1 kq l0 l1 x5_1 x54_4 = some r) ∧ Aside0 (kq ≤ k1) ∧ Aside0 (Below w.heap.size w wc))
     case first =>
      have H := HC5.out
      clear HC5
      by_cases c6 : 0 ≤ x5_1
      ·rw [if_pos c6] at H
       have c6b0 := decide_eq_true c6
       clear c6
       (first | rw [c6b0] | (simp only [i64_w, i32_w]; rw [c6b0]) | skip)
       by_cases c7 : x5_1 < (l1.length : Int)
       ·rw [if_pos c7] at H
        have c7b0 := decide_eq_true c7
        clear c7
        by_cases c8 : ((rd_T34 l0 x5_1).f0) = ((rd_T34 l1 x5_1).f0)
        ·rw [if_pos c8] at H
         have c8b0 := be_ c8
         have c8b1 := bg_ c8
         clear c8
         by_cases c9 : ((rd_T34 l0 x5_1).f1) = ((rd_T34 l1 x5_1).f1)
         ·rw [if_pos c9] at H
          have c9b0 := be_ c9
          have c9b1 := bg_ c9
          clear c9
          replace H := bs_ H; obtain ⟨t255, A10, H⟩ := H
          have H' := Aside0.mk H
          clear H
          try go_wp2
          have n0_ := Aside0.mk (below_drew1 HB.out)
          clear HB
          have HB := n0_
          clear n0_
          have p249 : 0 ≤ (x5_1 : Int) := of_decide_eq_true (by first | (with_reducible assumption) | assumption)
          have q249 : x5_1 < (l0.length : Int) := of_decide_eq_true (by first | (with_reducible assumption) | assumption)
          obtain ⟨ad249, e249, hx249_0, hx249_1, hx249_2⟩ := at_T34 HR0.out x5_1 p249 q249
          have hw249_2 := hx249_2
          have hw249_1 := hx249_1
          have hw249_0 := hx249_0
          cases e249
          replace hx249_0 := pw_cell_below HB.out hx249_0
          replace hx249_1 := pw_cell_below HB.out hx249_1
          replace hx249_2 := pw_cell_below HB.out hx249_2
          replace p249 := eq_true p249
          replace q249 := eq_true q249
          have p250 : 0 ≤ (x5_1 : Int) := of_decide_eq_true (by first | (with_reducible assumption) | assumption)
          have q250 : x5_1 < (l1.length : Int) := of_decide_eq_true (by first | (with_reducible assumption) | assumption)
          obtain ⟨ad250, e250, hx250_0, hx250_1, hx250_2⟩ := at_T34 HR1.out x5_1 p250 q250
          have hw250_2 := hx250_2
          have hw250_1 := hx250_1
          have hw250_0 := hx250_0
          cases e250
          replace hx250_0 := pw_cell_below HB.out hx250_0
          replace hx250_1 := pw_cell_below HB.out hx250_1
          replace hx250_2 := pw_cell_below HB.out hx250_2
          replace p250 := eq_true p250
          replace q250 := eq_true q250
          have p251 : 0 ≤ (x5_1 : Int) := of_decide_eq_true (by first | (with_reducible assumption) | assumption)
          have q251 : x5_1 < (l0.length : Int) := of_decide_eq_true (by first | (with_reducible assumption) | assumption)
          obtain ⟨ad251, e251, hx251_0, hx251_1, hx251_2⟩ := at_T34 HR0.out x5_1 p251 q251
          have hw251_2 := hx251_2
          have hw251_1 := hx251_1
          have hw251_0 := hx251_0
          obtain rfl : ad249 = ad251 := (by injection e251)
          replace hx251_0 := pw_cell_below HB.out hx251_0
          replace hx251_1 := pw_cell_below HB.out hx251_1
          replace hx251_2 := pw_cell_below HB.out hx251_2
          replace p251 := eq_true p251
          replace q251 := eq_true q251
          have p252 : 0 ≤ (x5_1 : Int) := of_decide_eq_true (by first | (with_reducible assumption) | assumption)
          have q252 : x5_1 < (l1.length : Int) := of_decide_eq_true (by first | (with_reducible assumption) | assumption)
          obtain ⟨ad252, e252, hx252_0, hx252_1, hx252_2⟩ := at_T34 HR1.out x5_1 p252 q252
          have hw252_2 := hx252_2
          have hw252_1 := hx252_1
          have hw252_0 := hx252_0
          obtain rfl : ad250 = ad252 := (by injection e252)
          replace hx252_0 := pw_cell_below HB.out hx252_0
          replace hx252_1 := pw_cell_below HB.out hx252_1
          replace hx252_2 := pw_cell_below HB.out hx252_2
          replace p252 := eq_true p252
          replace q252 := eq_true q252
          have p253 : 0 ≤ (x5_1 : Int) := of_decide_eq_true (by first | (with_reducible assumption) | assumption)
          have q253 : x5_1 < (l0.length : Int) := of_decide_eq_true (by first | (with_reducible assumption) | assumption)
          obtain ⟨ad253, e253, hx253_0, hx253_1, hx253_2⟩ := at_T34 HR0.out x5_1 p253 q253
          have hw253_2 := hx253_2
          have hw253_1 := hx253_1
          have hw253_0 := hx253_0
          obtain rfl : ad249 = ad253 := (by injection e253)
          replace hx253_0 := pw_cell_below HB.out hx253_0
          replace hx253_1 := pw_cell_below HB.out hx253_1
          replace hx253_2 := pw_cell_below HB.out hx253_2
          replace p253 := eq_true p253
          replace q253 := eq_true q253
          have p254 : 0 ≤ (x5_1 : Int) := of_decide_eq_true (by first | (with_reducible assumption) | assumption)
          have q254 : x5_1 < (l1.length : Int) := of_decide_eq_true (by first | (with_reducible assumption) | assumption)
          obtain ⟨ad254, e254, hx254_0, hx254_1, hx254_2⟩ := at_T34 HR1.out x5_1 p254 q254
          have hw254_2 := hx254_2
          have hw254_1 := hx254_1
          have hw254_0 := hx254_0
          obtain rfl : ad250 = ad254 := (by injection e254)
          replace hx254_0 := pw_cell_below HB.out hx254_0
          replace hx254_1 := pw_cell_below HB.out hx254_1
          replace hx254_2 := pw_cell_below HB.out hx254_2
          replace p254 := eq_true p254
          replace q254 := eq_true q254
          refine start_ (n := 38) (S := fun w' => w'.cell? (ad249.add ((x5_1).toNat * 3)) = some (.int .i64 ((rd_T34 l0 x5_1).f0)) ∧ w'.cell? ⟨(ad249.add ((x5_1).toNat * 3)).block, (ad249.add ((x5_1).toNat * 3)).off + 1, none⟩ = some (.int .i64 ((rd_T34 l0 x5_1).f1)) ∧ w'.cell? ⟨(ad249.add ((x5_1).toNat * 3)).block, (ad249.add ((x5_1).toNat * 3)).off + 2, none⟩ = some (.float .f64 ((rd_T34 l0 x5_1).f2)) ∧ w'.cell? (ad250.add ((x5_1).toNat * 3)) = some (.int .i64 ((rd_T34 l1 x5_1).f0)) ∧ w'.cell? ⟨(ad250.add ((x5_1).toNat * 3)).block, (ad250.add ((x5_1).toNat * 3)).off + 1, none⟩ = some (.int .i64 ((rd_T34 l1 x5_1).f1)) ∧ w'.cell? ⟨(ad250.add ((x5_1).toNat * 3)).block, (ad250.add ((x5_1).toNat * 3)).off + 2, none⟩ = some (.float .f64 ((rd_T34 l1 x5_1).f2)) ∧ w'.cell? (ad249.add ((x5_1).toNat * 3)) = some (.int .i64 ((rd_T34 l0 x5_1).f0)) ∧ w'.cell? ⟨(ad249.add ((x5_1).toNat * 3)).block, (ad249.add ((x5_1).toNat * 3)).off + 1, none⟩ = some (.int .i64 ((rd_T34 l0 x5_1).f1)) ∧ w'.cell? ⟨(ad249.add ((x5_1).toNat * 3)).block, (ad249.add ((x5_1).toNat * 3)).off + 2, none⟩ = some (.float .f64 ((rd_T34 l0 x5_1).f2)) ∧ w'.cell? (ad250.add ((x5_1).toNat * 3)) = some (.int .i64 ((rd_T34 l1 x5_1).f0)) ∧ w'.cell? ⟨(ad250.add ((x5_1).toNat * 3)).block, (ad250.add ((x5_1).toNat * 3)).off + 1, none⟩ = some (.int .i64 ((rd_T34 l1 x5_1).f1)) ∧ w'.cell? ⟨(ad250.add ((x5_1).toNat * 3)).block, (ad250.add ((x5_1).toNat * 3)).off + 2, none⟩ = some (.float .f64 ((rd_T34 l1 x5_1).f2)) ∧ w'.cell? (ad249.add ((x5_1).toNat * 3)) = some (.int .i64 ((rd_T34 l0 x5_1).f0)) ∧ w'.cell? ⟨(ad249.add ((x5_1).toNat * 3)).block, (ad249.add ((x5_1).toNat * 3)).off + 1, none⟩ = some (.int .i64 ((rd_T34 l0 x5_1).f1)) ∧ w'.cell? ⟨(ad249.add ((x5_1).toNat * 3)).block, (ad249.add ((x5_1).toNat * 3)).off + 2, none⟩ = some (.float .f64 ((rd_T34 l0 x5_1).f2)) ∧ w'.cell? (ad250.add ((x5_1).toNat * 3)) = some (.int .i64 ((rd_T34 l1 x5_1).f0)) ∧ w'.cell? ⟨(ad250.add ((x5_1).toNat * 3)).block, (ad250.add ((x5_1).toNat * 3)).off + 1, none⟩ = some (.int .i64 ((rd_T34 l1 x5_1).f1)) ∧ w'.cell? ⟨(ad250.add ((x5_1).toNat * 3)).block, (ad250.add ((x5_1).toNat * 3)).off + 2, none⟩ = some (.float .f64 ((rd_T34 l1 x5_1).f2))) (ds := []) (bz 38 0) (by kernel_rfl) rfl rfl ⟨((HB.out.cell (World.block_lt_of_cell? w _ hw249_0)).trans hw249_0), ((HB.out.cell (World.block_lt_of_cell? w _ hw249_1)).trans hw249_1), ((HB.out.cell (World.block_lt_of_cell? w _ hw249_2)).trans hw249_2), ((HB.out.cell (World.block_lt_of_cell? w _ hw250_0)).trans hw250_0), ((HB.out.cell (World.block_lt_of_cell? w _ hw250_1)).trans hw250_1), ((HB.out.cell (World.block_lt_of_cell? w _ hw250_2)).trans hw250_2), ((HB.out.cell (World.block_lt_of_cell? w _ hw251_0)).trans hw251_0), ((HB.out.cell (World.block_lt_of_cell? w _ hw251_1)).trans hw251_1), ((HB.out.cell (World.block_lt_of_cell? w _ hw251_2)).trans hw251_2), ((HB.out.cell (World.block_lt_of_cell? w _ hw252_0)).trans hw252_0), ((HB.out.cell (World.block_lt_of_cell? w _ hw252_1)).trans hw252_1), ((HB.out.cell (World.block_lt_of_cell? w _ hw252_2)).trans hw252_2), ((HB.out.cell (World.block_lt_of_cell? w _ hw253_0)).trans hw253_0), ((HB.out.cell (World.block_lt_of_cell? w _ hw253_1)).trans hw253_1), ((HB.out.cell (World.block_lt_of_cell? w _ hw253_2)).trans hw253_2), ((HB.out.cell (World.block_lt_of_cell? w _ hw254_0)).trans hw254_0), ((HB.out.cell (World.block_lt_of_cell? w _ hw254_1)).trans hw254_1), ((HB.out.cell (World.block_lt_of_cell? w _ hw254_2)).trans hw254_2)⟩ (fun hHeld => ?_); refine with_tabW beaconref09_SameHomes.tab6 beaconref09_SameHomes.bits6 (fun HT_ HW_ => ?_)
          generalize wr.drew = w11 at HB hx249_0 hx249_1 hx249_2 hx250_0 hx250_1 hx250_2 hx251_0 hx251_1 hx251_2 hx252_0 hx252_1 hx252_2 hx253_0 hx253_1 hx253_2 hx254_0 hx254_1 hx254_2 hHeld ⊢
          refine pu2 0 (some 17) (bz 38 1) ?_
          refine pu2 1 (some 18) (bz 38 3) ?_
          refine pu2 2 (some 19) (bz 38 7) ?_
          refine pu2 3 (some 20) (bz 38 15) ?_
          refine pu2 5 (some 22) (bz 38 47) ?_
          refine pu2 6 (some 23) (bz 38 111) ?_
          refine pu2 7 (some 24) (bz 38 239) ?_
          refine pu2 8 (some 25) (bz 38 495) ?_
          refine tk2 4 (some 21) (bz 38 511) ?_
          refine tk2 9 (some 26) (bz 38 1023) ?_
          refine pu2 10 (some 27) (bz 38 2047) ?_
          refine pu2 11 (some 28) (bz 38 4095) ?_
          refine pu2 12 (some 29) (bz 38 8191) ?_
          refine pu2 13 (some 30) (bz 38 16383) ?_
          refine pu2 14 (some 31) (bz 38 32767) ?_
          refine pu2 15 (some 32) (bz 38 65535) ?_
          refine pu2 17 (some 34) (bz 38 196607) ?_
          refine pu2 18 (some 35) (bz 38 458751) ?_
          refine pu2 19 (some 36) (bz 38 983039) ?_
          refine pu2 20 (some 37) (bz 38 2031615) ?_
          refine tk2 16 (some 33) (bz 38 2097151) ?_
          refine tk2 21 (some 38) (bz 38 4194303) ?_
          refine pu2 22 (some 39) (bz 38 8388607) ?_
          refine pu2 23 (some 40) (bz 38 16777215) ?_
          refine pu2 24 (some 41) (bz 38 33554431) ?_
          refine pu2 25 (some 42) (bz 38 67108863) ?_
          refine pu2 26 (some 43) (bz 38 134217727) ?_
          refine pu2 27 (some 44) (bz 38 268435455) ?_
          refine pu2 28 (some 45) (bz 38 536870911) ?_
          refine pu2 30 (some 47) (bz 38 1610612735) ?_
          refine pu2 31 (some 48) (bz 38 3758096383) ?_
          refine pu2 32 (some 49) (bz 38 8053063679) ?_
          refine pu2 33 (some 50) (bz 38 16642998271) ?_
          refine tk2 29 (some 46) (bz 38 17179869183) ?_
          refine tk2 34 (some 51) (bz 38 34359738367) ?_
          refine one_ (i := 35) (N := some 52) (bz 38 68719476735) rfl rfl (one_of HT_.out (by kernel_rfl)) (by decide) (fun K hK => ?_)
          refine goes_ Try.func48 (by kernel_rfl) rfl #[.float .f64 ((rd_T34 l0 x5_1).f2), .float .f64 ((rd_T34 l1 x5_1).f2)] (by rfl) rfl rfl (by (try simp only [List.map_toArray, List.map_cons, List.map_nil]); first | done | rfl | (simp only [List.length_drop, List.length_take]; rfl)) ?_
          with_reducible refine (beaconref01_Same.calls ((rd_T34 l0 x5_1).f2) ((rd_T34 l1 x5_1).f2) t255 _ A10.out).mono ?_
          rintro e w' ⟨rfl, ⟨nd, rfl⟩⟩
          refine ⟨_, rfl, ?_⟩
          refine hK.out _ _ ⟨((HB.out.cell (World.block_lt_of_cell? w _ hw249_0)).trans hw249_0), ((HB.out.cell (World.block_lt_of_cell? w _ hw249_1)).trans hw249_1), ((HB.out.cell (World.block_lt_of_cell? w _ hw249_2)).trans hw249_2), ((HB.out.cell (World.block_lt_of_cell? w _ hw250_0)).trans hw250_0), ((HB.out.cell (World.block_lt_of_cell? w _ hw250_1)).trans hw250_1), ((HB.out.cell (World.block_lt_of_cell? w _ hw250_2)).trans hw250_2), ((HB.out.cell (World.block_lt_of_cell? w _ hw251_0)).trans hw251_0), ((HB.out.cell (World.block_lt_of_cell? w _ hw251_1)).trans hw251_1), ((HB.out.cell (World.block_lt_of_cell? w _ hw251_2)).trans hw251_2), ((HB.out.cell (World.block_lt_of_cell? w _ hw252_0)).trans hw252_0), ((HB.out.cell (World.block_lt_of_cell? w _ hw252_1)).trans hw252_1), ((HB.out.cell (World.block_lt_of_cell? w _ hw252_2)).trans hw252_2), ((HB.out.cell (World.block_lt_of_cell? w _ hw253_0)).trans hw253_0), ((HB.out.cell (World.block_lt_of_cell? w _ hw253_1)).trans hw253_1), ((HB.out.cell (World.block_lt_of_cell? w _ hw253_2)).trans hw253_2), ((HB.out.cell (World.block_lt_of_cell? w _ hw254_0)).trans hw254_0), ((HB.out.cell (World.block_lt_of_cell? w _ hw254_1)).trans hw254_1), ((HB.out.cell (World.block_lt_of_cell? w _ hw254_2)).trans hw254_2)⟩ (fun hHeld => ?_)
          clear hK K
          refine norm_ (a' := ?_) ?_ ?_; rotate_left; show Act.put _ (some 52) _ = _; simp only [Act.put, qa, qb, qc, i64_w, i32_w]; rfl
          refine pu2 36 (some 53) (bz 38 137438953471) ?_
          refine pu2 37 (some 54) (bz 38 274877906943) ?_
          refine done_ (done_of HT_.out (by kernel_rfl)) ?_
          try go_wp2
          go_meet
          case rel => exact ⟨_, (!t255), fz, H', ⟨by have := HK1.out; exact fl⟩, ⟨fb⟩⟩
         ·rw [if_neg c9] at H
          have c9b0 := bh_ c9
          have c9b1 := bi_ c9
          have H' := Aside0.mk H
          clear H
          try go_wp2
          have n0_ := Aside0.mk (below_drew1 HB.out)
          clear HB
          have HB := n0_
          clear n0_
          have p249 : 0 ≤ (x5_1 : Int) := of_decide_eq_true (by first | (with_reducible assumption) | assumption)
          have q249 : x5_1 < (l0.length : Int) := of_decide_eq_true (by first | (with_reducible assumption) | assumption)
          obtain ⟨ad249, e249, hx249_0, hx249_1, hx249_2⟩ := at_T34 HR0.out x5_1 p249 q249
          have hw249_2 := hx249_2
          have hw249_1 := hx249_1
          have hw249_0 := hx249_0
          cases e249
          replace hx249_0 := pw_cell_below HB.out hx249_0
          replace hx249_1 := pw_cell_below HB.out hx249_1
          replace hx249_2 := pw_cell_below HB.out hx249_2
          replace p249 := eq_true p249
          replace q249 := eq_true q249
          have p250 : 0 ≤ (x5_1 : Int) := of_decide_eq_true (by first | (with_reducible assumption) | assumption)
          have q250 : x5_1 < (l1.length : Int) := of_decide_eq_true (by first | (with_reducible assumption) | assumption)
          obtain ⟨ad250, e250, hx250_0, hx250_1, hx250_2⟩ := at_T34 HR1.out x5_1 p250 q250
          have hw250_2 := hx250_2
          have hw250_1 := hx250_1
          have hw250_0 := hx250_0
          cases e250
          replace hx250_0 := pw_cell_below HB.out hx250_0
          replace hx250_1 := pw_cell_below HB.out hx250_1
          replace hx250_2 := pw_cell_below HB.out hx250_2
          replace p250 := eq_true p250
          replace q250 := eq_true q250
          have p251 : 0 ≤ (x5_1 : Int) := of_decide_eq_true (by first | (with_reducible assumption) | assumption)
          have q251 : x5_1 < (l0.length : Int) := of_decide_eq_true (by first | (with_reducible assumption) | assumption)
          obtain ⟨ad251, e251, hx251_0, hx251_1, hx251_2⟩ := at_T34 HR0.out x5_1 p251 q251
          have hw251_2 := hx251_2
          have hw251_1 := hx251_1
          have hw251_0 := hx251_0
          obtain rfl : ad249 = ad251 := (by injection e251)
          replace hx251_0 := pw_cell_below HB.out hx251_0
          replace hx251_1 := pw_cell_below HB.out hx251_1
          replace hx251_2 := pw_cell_below HB.out hx251_2
          replace p251 := eq_true p251
          replace q251 := eq_true q251
          have p252 : 0 ≤ (x5_1 : Int) := of_decide_eq_true (by first | (with_reducible assumption) | assumption)
          have q252 : x5_1 < (l1.length : Int) := of_decide_eq_true (by first | (with_reducible assumption) | assumption)
          obtain ⟨ad252, e252, hx252_0, hx252_1, hx252_2⟩ := at_T34 HR1.out x5_1 p252 q252
          have hw252_2 := hx252_2
          have hw252_1 := hx252_1
          have hw252_0 := hx252_0
          obtain rfl : ad250 = ad252 := (by injection e252)
          replace hx252_0 := pw_cell_below HB.out hx252_0
          replace hx252_1 := pw_cell_below HB.out hx252_1
          replace hx252_2 := pw_cell_below HB.out hx252_2
          replace p252 := eq_true p252
          replace q252 := eq_true q252
          refine start_ (n := 38) (S := fun w' => w'.cell? (ad249.add ((x5_1).toNat * 3)) = some (.int .i64 ((rd_T34 l0 x5_1).f0)) ∧ w'.cell? ⟨(ad249.add ((x5_1).toNat * 3)).block, (ad249.add ((x5_1).toNat * 3)).off + 1, none⟩ = some (.int .i64 ((rd_T34 l0 x5_1).f1)) ∧ w'.cell? ⟨(ad249.add ((x5_1).toNat * 3)).block, (ad249.add ((x5_1).toNat * 3)).off + 2, none⟩ = some (.float .f64 ((rd_T34 l0 x5_1).f2)) ∧ w'.cell? (ad250.add ((x5_1).toNat * 3)) = some (.int .i64 ((rd_T34 l1 x5_1).f0)) ∧ w'.cell? ⟨(ad250.add ((x5_1).toNat * 3)).block, (ad250.add ((x5_1).toNat * 3)).off + 1, none⟩ = some (.int .i64 ((rd_T34 l1 x5_1).f1)) ∧ w'.cell? ⟨(ad250.add ((x5_1).toNat * 3)).block, (ad250.add ((x5_1).toNat * 3)).off + 2, none⟩ = some (.float .f64 ((rd_T34 l1 x5_1).f2)) ∧ w'.cell? (ad249.add ((x5_1).toNat * 3)) = some (.int .i64 ((rd_T34 l0 x5_1).f0)) ∧ w'.cell? ⟨(ad249.add ((x5_1).toNat * 3)).block, (ad249.add ((x5_1).toNat * 3)).off + 1, none⟩ = some (.int .i64 ((rd_T34 l0 x5_1).f1)) ∧ w'.cell? ⟨(ad249.add ((x5_1).toNat * 3)).block, (ad249.add ((x5_1).toNat * 3)).off + 2, none⟩ = some (.float .f64 ((rd_T34 l0 x5_1).f2)) ∧ w'.cell? (ad250.add ((x5_1).toNat * 3)) = some (.int .i64 ((rd_T34 l1 x5_1).f0)) ∧ w'.cell? ⟨(ad250.add ((x5_1).toNat * 3)).block, (ad250.add ((x5_1).toNat * 3)).off + 1, none⟩ = some (.int .i64 ((rd_T34 l1 x5_1).f1)) ∧ w'.cell? ⟨(ad250.add ((x5_1).toNat * 3)).block, (ad250.add ((x5_1).toNat * 3)).off + 2, none⟩ = some (.float .f64 ((rd_T34 l1 x5_1).f2))) (ds := []) (bz 38 0) (by kernel_rfl) rfl rfl ⟨((HB.out.cell (World.block_lt_of_cell? w _ hw249_0)).trans hw249_0), ((HB.out.cell (World.block_lt_of_cell? w _ hw249_1)).trans hw249_1), ((HB.out.cell (World.block_lt_of_cell? w _ hw249_2)).trans hw249_2), ((HB.out.cell (World.block_lt_of_cell? w _ hw250_0)).trans hw250_0), ((HB.out.cell (World.block_lt_of_cell? w _ hw250_1)).trans hw250_1), ((HB.out.cell (World.block_lt_of_cell? w _ hw250_2)).trans hw250_2), ((HB.out.cell (World.block_lt_of_cell? w _ hw251_0)).trans hw251_0), ((HB.out.cell (World.block_lt_of_cell? w _ hw251_1)).trans hw251_1), ((HB.out.cell (World.block_lt_of_cell? w _ hw251_2)).trans hw251_2), ((HB.out.cell (World.block_lt_of_cell? w _ hw252_0)).trans hw252_0), ((HB.out.cell (World.block_lt_of_cell? w _ hw252_1)).trans hw252_1), ((HB.out.cell (World.block_lt_of_cell? w _ hw252_2)).trans hw252_2)⟩ (fun hHeld => ?_); refine with_tabW beaconref09_SameHomes.tab6 beaconref09_SameHomes.bits6 (fun HT_ HW_ => ?_)
          generalize wr.drew = w12 at HB hx249_0 hx249_1 hx249_2 hx250_0 hx250_1 hx250_2 hx251_0 hx251_1 hx251_2 hx252_0 hx252_1 hx252_2 hHeld ⊢
          refine pu2 0 (some 17) (bz 38 1) ?_
          refine pu2 1 (some 18) (bz 38 3) ?_
          refine pu2 2 (some 19) (bz 38 7) ?_
          refine pu2 3 (some 20) (bz 38 15) ?_
          refine pu2 5 (some 22) (bz 38 47) ?_
          refine pu2 6 (some 23) (bz 38 111) ?_
          refine pu2 7 (some 24) (bz 38 239) ?_
          refine pu2 8 (some 25) (bz 38 495) ?_
          refine tk2 4 (some 21) (bz 38 511) ?_
          refine tk2 9 (some 26) (bz 38 1023) ?_
          refine pu2 10 (some 27) (bz 38 2047) ?_
          refine pu2 11 (some 28) (bz 38 4095) ?_
          refine pu2 12 (some 29) (bz 38 8191) ?_
          refine pu2 13 (some 30) (bz 38 16383) ?_
          refine pu2 14 (some 31) (bz 38 32767) ?_
          refine pu2 15 (some 32) (bz 38 65535) ?_
          refine pu2 17 (some 34) (bz 38 196607) ?_
          refine pu2 18 (some 35) (bz 38 458751) ?_
          refine pu2 19 (some 36) (bz 38 983039) ?_
          refine pu2 20 (some 37) (bz 38 2031615) ?_
          refine tk2 16 (some 33) (bz 38 2097151) ?_
          refine tk2 21 (some 38) (bz 38 4194303) ?_
          refine pu2 22 (some 39) (bz 38 8388607) ?_
          refine pu2 23 (some 40) (bz 38 16777215) ?_
          refine pu2 24 (some 41) (bz 38 33554431) ?_
          refine pz2 25 (some 42) (bz 38 67108863) ?_
          refine pz2 26 (some 43) (bz 38 134217727) ?_
          refine pz2 27 (some 44) (bz 38 268435455) ?_
          refine pz2 28 (some 45) (bz 38 536870911) ?_
          refine pz2 29 (some 46) (bz 38 1073741823) ?_
          refine pz2 30 (some 47) (bz 38 2147483647) ?_
          refine pz2 31 (some 48) (bz 38 4294967295) ?_
          refine pz2 32 (some 49) (bz 38 8589934591) ?_
          refine pz2 33 (some 50) (bz 38 17179869183) ?_
          refine pz2 34 (some 51) (bz 38 34359738367) ?_
          refine pz2 35 (some 52) (bz 38 68719476735) ?_
          refine pz2 36 (some 53) (bz 38 137438953471) ?_
          refine pu2 37 (some 54) (bz 38 274877906943) ?_
          refine done_ (done_of HT_.out (by kernel_rfl)) ?_
          try go_wp2
          go_meet
          case rel => exact ⟨_, (true), fz, H', ⟨by have := HK1.out; exact fl⟩, ⟨fb⟩⟩
        ·rw [if_neg c8] at H
         have c8b0 := bh_ c8
         have c8b1 := bi_ c8
         have H' := Aside0.mk H
         clear H
         try go_wp2
         have n0_ := Aside0.mk (below_drew1 HB.out)
         clear HB
         have HB := n0_
         clear n0_
         have p249 : 0 ≤ (x5_1 : Int) := of_decide_eq_true (by first | (with_reducible assumption) | assumption)
         have q249 : x5_1 < (l0.length : Int) := of_decide_eq_true (by first | (with_reducible assumption) | assumption)
         obtain ⟨ad249, e249, hx249_0, hx249_1, hx249_2⟩ := at_T34 HR0.out x5_1 p249 q249
         have hw249_2 := hx249_2
         have hw249_1 := hx249_1
         have hw249_0 := hx249_0
         cases e249
         replace hx249_0 := pw_cell_below HB.out hx249_0
         replace hx249_1 := pw_cell_below HB.out hx249_1
         replace hx249_2 := pw_cell_below HB.out hx249_2
         replace p249 := eq_true p249
         replace q249 := eq_true q249
         have p250 : 0 ≤ (x5_1 : Int) := of_decide_eq_true (by first | (with_reducible assumption) | assumption)
         have q250 : x5_1 < (l1.length : Int) := of_decide_eq_true (by first | (with_reducible assumption) | assumption)
         obtain ⟨ad250, e250, hx250_0, hx250_1, hx250_2⟩ := at_T34 HR1.out x5_1 p250 q250
         have hw250_2 := hx250_2
         have hw250_1 := hx250_1
         have hw250_0 := hx250_0
         cases e250
         replace hx250_0 := pw_cell_below HB.out hx250_0
         replace hx250_1 := pw_cell_below HB.out hx250_1
         replace hx250_2 := pw_cell_below HB.out hx250_2
         replace p250 := eq_true p250
         replace q250 := eq_true q250
         refine start_ (n := 38) (S := fun w' => w'.cell? (ad249.add ((x5_1).toNat * 3)) = some (.int .i64 ((rd_T34 l0 x5_1).f0)) ∧ w'.cell? ⟨(ad249.add ((x5_1).toNat * 3)).block, (ad249.add ((x5_1).toNat * 3)).off + 1, none⟩ = some (.int .i64 ((rd_T34 l0 x5_1).f1)) ∧ w'.cell? ⟨(ad249.add ((x5_1).toNat * 3)).block, (ad249.add ((x5_1).toNat * 3)).off + 2, none⟩ = some (.float .f64 ((rd_T34 l0 x5_1).f2)) ∧ w'.cell? (ad250.add ((x5_1).toNat * 3)) = some (.int .i64 ((rd_T34 l1 x5_1).f0)) ∧ w'.cell? ⟨(ad250.add ((x5_1).toNat * 3)).block, (ad250.add ((x5_1).toNat * 3)).off + 1, none⟩ = some (.int .i64 ((rd_T34 l1 x5_1).f1)) ∧ w'.cell? ⟨(ad250.add ((x5_1).toNat * 3)).block, (ad250.add ((x5_1).toNat * 3)).off + 2, none⟩ = some (.float .f64 ((rd_T34 l1 x5_1).f2))) (ds := []) (bz 38 0) (by kernel_rfl) rfl rfl ⟨((HB.out.cell (World.block_lt_of_cell? w _ hw249_0)).trans hw249_0), ((HB.out.cell (World.block_lt_of_cell? w _ hw249_1)).trans hw249_1), ((HB.out.cell (World.block_lt_of_cell? w _ hw249_2)).trans hw249_2), ((HB.out.cell (World.block_lt_of_cell? w _ hw250_0)).trans hw250_0), ((HB.out.cell (World.block_lt_of_cell? w _ hw250_1)).trans hw250_1), ((HB.out.cell (World.block_lt_of_cell? w _ hw250_2)).trans hw250_2)⟩ (fun hHeld => ?_); refine with_tabW beaconref09_SameHomes.tab6 beaconref09_SameHomes.bits6 (fun HT_ HW_ => ?_)
         generalize wr.drew = w13 at HB hx249_0 hx249_1 hx249_2 hx250_0 hx250_1 hx250_2 hHeld ⊢
         refine pu2 0 (some 17) (bz 38 1) ?_
         refine pu2 1 (some 18) (bz 38 3) ?_
         refine pu2 2 (some 19) (bz 38 7) ?_
         refine pu2 3 (some 20) (bz 38 15) ?_
         refine pu2 5 (some 22) (bz 38 47) ?_
         refine pu2 6 (some 23) (bz 38 111) ?_
         refine pu2 7 (some 24) (bz 38 239) ?_
         refine pu2 8 (some 25) (bz 38 495) ?_
         refine tk2 4 (some 21) (bz 38 511) ?_
         refine tk2 9 (some 26) (bz 38 1023) ?_
         refine pu2 10 (some 27) (bz 38 2047) ?_
         refine pu2 11 (some 28) (bz 38 4095) ?_
         refine pz2 12 (some 29) (bz 38 8191) ?_
         refine pz2 13 (some 30) (bz 38 16383) ?_
         refine pz2 14 (some 31) (bz 38 32767) ?_
         refine pz2 15 (some 32) (bz 38 65535) ?_
         refine pz2 16 (some 33) (bz 38 131071) ?_
         refine pz2 17 (some 34) (bz 38 262143) ?_
         refine pz2 18 (some 35) (bz 38 524287) ?_
         refine pz2 19 (some 36) (bz 38 1048575) ?_
         refine pz2 20 (some 37) (bz 38 2097151) ?_
         refine pz2 21 (some 38) (bz 38 4194303) ?_
         refine pz2 22 (some 39) (bz 38 8388607) ?_
         refine pu2 23 (some 40) (bz 38 16777215) ?_
         refine pu2 24 (some 41) (bz 38 33554431) ?_
         refine pz2 25 (some 42) (bz 38 67108863) ?_
         refine pz2 26 (some 43) (bz 38 134217727) ?_
         refine pz2 27 (some 44) (bz 38 268435455) ?_
         refine pz2 28 (some 45) (bz 38 536870911) ?_
         refine pz2 29 (some 46) (bz 38 1073741823) ?_
         refine pz2 30 (some 47) (bz 38 2147483647) ?_
         refine pz2 31 (some 48) (bz 38 4294967295) ?_
         refine pz2 32 (some 49) (bz 38 8589934591) ?_
         refine pz2 33 (some 50) (bz 38 17179869183) ?_
         refine pz2 34 (some 51) (bz 38 34359738367) ?_
         refine pz2 35 (some 52) (bz 38 68719476735) ?_
         refine pz2 36 (some 53) (bz 38 137438953471) ?_
         refine pu2 37 (some 54) (bz 38 274877906943) ?_
         refine done_ (done_of HT_.out (by kernel_rfl)) ?_
         try go_wp2
         go_meet
         case rel => exact ⟨_, (true), fz, H', ⟨by have := HK1.out; exact fl⟩, ⟨fb⟩⟩
       ·rw [if_neg c7] at H
        exact absurd H (by simp)
      ·rw [if_neg c6] at H
       exact absurd H (by simp)
     case rest =>
      clear HC5
      obtain ⟨kq, x54_4, rfl, HA, HJ4, HB⟩ := hcut
      cases kq with
      | zero => exact absurd HA.out (by simp [beaconref09_SameHomes.j1])
      | succ kj4 =>
       have H := HA.out
       clear HA
       simp only [beaconref09_SameHomes.j1] at H
       by_cases c14 : x54_4 = true
       ·subst c14
        rw [if_pos rfl] at H
        obtain rfl := oj_ H
        go_wp2
        go_ret
        exact ⟨fe, fb⟩
       ·obtain rfl := bf_ c14
        rw [if_neg nf_] at H
        have H' := Aside0.mk H
        clear H
        go_wp2
        go_roundg kj4
        case measure => have := HK1.out; have := HJ4.out; omega
        case rel => exact ⟨(wrap64 (x5_1 + 1)), fz, H', ⟨by have := HK1.out; have := HJ4.out; omega⟩, ⟨fb⟩⟩
    ·rw [if_neg c4] at H
     have c4b0 := decide_eq_false c4
     clear c4
     obtain rfl := oj_ H
     go_wp2
     go_ret
     exact ⟨fe, fb⟩
 ·rw [if_neg c3] at H
  have c3b0 := bh_ c3
  have c3b1 := bi_ c3
  have c3b2 : (l0.length == l1.length) = false := by first | simpa using c3 | (simp at c3 ⊢; omega)
  obtain rfl := oj_ H
  go_enter Try.func29, Try.ntmps29
  go_wp2
  go_ret
  exact ⟨fe, fb⟩

end Go.Proofs.Ytjkhckbfkinheaa.GAa
