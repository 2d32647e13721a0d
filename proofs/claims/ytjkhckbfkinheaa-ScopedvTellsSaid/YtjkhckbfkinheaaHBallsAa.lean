/- scopedv.Balls: a map by destination, its entries in whatever order they come, then sorted. -/
import Derived.Test.YtjkhckbfkinheaaHMarksAa
import Derived.Test.YtjkhckbfkinheaaHSortEAa
import Derived.Maps.RangeWalk
import Derived.Test.YtjkhckbfkinheaaGAax12
import Derived.Test.YtjkhckbfkinheaaGAax13
import Derived.Test.YtjkhckbfkinheaaGAax37
set_option linter.unusedVariables false
set_option linter.unusedSimpArgs false
namespace Go.Proofs.Ytjkhckbfkinheaa.GAa
open Go Go.RowKit Go.Shelf Go.Maps Go.Proofs.YtjkhckbfkinheaaW.PrintWords Go.Proofs.YtjkhckbfkinheaaW.PrintLast Go.Proofs.YtjkhckbfkinheaaW.PrintMore
open Go.Proofs.YtjkhckbfkinheaaW
attribute [local go_sem high] binOp_flss binOp_fgtr binOp_fleq binOp_fgeq binOp_feql binOp_fneq

def knownOf (r : Int × Int × Nat × Int × Nat × Int × Bool) : S58 := ⟨r.1, r.2.1, r.2.2.1, r.2.2.2.1, r.2.2.2.2.1, r.2.2.2.2.2.1⟩
def ballStep (self : Int) (max : Nat) (h : S54) (m : List (Int × S58)) (n : S56) : Option (List (Int × S58)) :=
  if n.f1 ≠ 2 then some m
  else if (Lit.int .i64 n.f0).wf = true then
    (scopedv_known.f 16 self h.f0 h.f1 h.f2 n.f0 n.f1 n.f2 n.f3 n.f4 max).bind fun r =>
      if r.2.2.2.2.2.2 = true then
        match IMap.get m n.f0 with
        | none => some (IMap.put n.f0 (knownOf r) m)
        | some y => if fLt r.2.2.1 y.f2 = true then some (IMap.put n.f0 (knownOf r) m) else some m
      else some m
  else none
def ballHeard (self : Int) (max : Nat) (m : List (Int × S58)) (h : S54) : Option (List (Int × S58)) := h.f2.foldlM (ballStep self max h) m
noncomputable def scopedv_Balls.f (a0 : Int) (l1 : List S54) (a2 : Nat) : Option (List S58 × Int) :=
  (evf fun k => landdv_Check.f k a0 l1).bind fun e => if e ≠ 0 then some ([], e) else
  (metric_Limit.f a2).bind fun e2 => if e2 ≠ 0 then some ([], e2) else
  if (l1.map fun h => h.f2.length).sum ≤ 1099511627776 then (l1.foldlM (ballHeard a0 a2) []).bind fun m => (sort_Entry.f (m.map (·.2)) 35).bind fun r => some (r, 0) else none

/-! ### what is left of a map -/
def restOf (left : Lit → Bool) (m : List (Int × S58)) : List S58 := (m.filter fun p => left (.int .i64 p.1)).map (·.2)
theorem get_mem {m : List (Int × S58)} (hm : m.Pairwise (fun p q => p.1 < q.1)) {p : Int × S58} (hp : p ∈ m) : IMap.get m p.1 = some p.2 := by
  obtain ⟨i, hi, rfl⟩ := List.getElem_of_mem hp
  exact get_at hm i hi
theorem rest_start {m : List (Int × S58)} (hm : m.Pairwise (fun p q => p.1 < q.1)) : restOf (Maps.has (IMap.dat m)) m = m.map (·.2) := by
  unfold restOf
  rw [List.filter_eq_self.2]
  intro p hp
  rw [IMap.dat_has, get_mem hm hp]
  rfl
theorem rest_strike {x : Int} {c : S58} {left : Lit → Bool} (hl : left (.int .i64 x) = true) : ∀ {m : List (Int × S58)}, m.Pairwise (fun p q => p.1 < q.1) → IMap.get m x = some c →
    (restOf left m).Perm (c :: restOf (fun z => left z && !z.sameKey (.int .i64 x)) m)
  | [], _, h => by simp [IMap.get] at h
  | p :: r, hm, h => by
    obtain ⟨h1, h2⟩ := List.pairwise_cons.1 hm
    by_cases e : p.1 = x
    · have hc : p.2 = c := by
        simp [IMap.get, e] at h
        exact h
      have same : r.filter (fun p => left (.int .i64 p.1)) = r.filter (fun p => left (.int .i64 p.1) && !(Lit.int .i64 p.1).sameKey (.int .i64 x)) := by
        refine List.filter_congr fun q hq => ?_
        have := h1 q hq
        rw [IMap.same, decide_eq_false (by omega)]
        simp
      unfold restOf
      rw [List.filter_cons, if_pos (by rw [e]; exact hl), List.filter_cons, if_neg (by simp [IMap.same, e]), List.map_cons, hc, same]
    · have hg : IMap.get r x = some c := by
        simpa [IMap.get, e] using h
      have ih := rest_strike hl h2 hg
      unfold restOf at ih ⊢
      by_cases hp : left (.int .i64 p.1) = true
      · rw [List.filter_cons, if_pos hp, List.filter_cons, if_pos (by simp [hp, IMap.same, e]), List.map_cons, List.map_cons]
        exact (List.Perm.cons _ ih).trans (List.Perm.swap _ _ _)
      · rw [List.filter_cons, if_neg hp, List.filter_cons, if_neg (by simp [hp])]
        exact ih
theorem rest_none {left : Lit → Bool} (h : ∀ kl, left kl = false) (m : List (Int × S58)) : restOf left m = [] := by
  unfold restOf
  rw [List.filter_eq_nil_iff.2]
  · rfl
  · intro p _
    rw [h]
    simp
/-- What reads so at a key, whatever nought is told, lies there. -/
theorem get_of_at {m : List (Int × S58)} {x : Int} {c : S58} (h : ∀ zd : DataW S58, (IMap.dat m).atKey (.int .i64 x) zd = .held c) : IMap.get m x = some c := by
  have h1 := h (.held ⟨0, 0, 0, 0, 0, 0⟩)
  have h2 := h (.held ⟨1, 0, 0, 0, 0, 0⟩)
  rw [IMap.dat_atKey] at h1 h2
  injection h1 with h1
  injection h2 with h2
  cases hg : IMap.get m x with
  | none =>
    rw [hg, Option.getD_none] at h1 h2
    rw [← h2] at h1
    injection h1 with h1
    omega
  | some y =>
    rw [hg, Option.getD_some] at h1
    rw [h1]
theorem near_perm {a b : List S58} (hp : a.Perm b) (h : NearE b) : NearE a :=
  ⟨by rw [hp.length_eq]; exact h.1, fun x hx => h.2.1 x (hp.mem_iff.1 hx), fun x hx y hy => h.2.2 x (hp.mem_iff.1 hx) y (hp.mem_iff.1 hy)⟩
theorem sort_perm {a b : List S58} (hp : a.Perm b) (h : NearE b) : a.mergeSort leE = b.mergeSort leE := by
  have tr : ∀ a b c : S58, leE a b = true → leE b c = true → leE a c = true := fun a b c h1 h2 => by
    unfold leE at *
    have := of_decide_eq_true h1
    have := of_decide_eq_true h2
    exact decide_eq_true (by omega)
  have tot : ∀ a b : S58, (leE a b || leE b a) = true := fun a b => by
    unfold leE
    by_cases c : a.f1 < b.f1 ∨ a.f1 = b.f1 ∧ a.f0 ≤ b.f0
    · rw [decide_eq_true c]
      rfl
    · rw [decide_eq_true (p := b.f1 < a.f1 ∨ b.f1 = a.f1 ∧ b.f0 ≤ a.f0) (by omega)]
      simp
  refine List.Perm.eq_of_pairwise (le := fun a b => leE a b = true) (fun x y hx hy h1 h2 => ?_) (List.pairwise_mergeSort tr tot a) (List.pairwise_mergeSort tr tot b) (((List.mergeSort_perm a leE).trans hp).trans (List.mergeSort_perm b leE).symm)
  have h1' := of_decide_eq_true h1
  have h2' := of_decide_eq_true h2
  exact h.2.2 x (hp.mem_iff.1 ((List.mergeSort_perm a leE).mem_iff.1 hx)) y ((List.mergeSort_perm b leE).mem_iff.1 hy) (by omega) (by omega)
theorem sort_same {a b : List S58} {r : List S58} (hp : a.Perm b) (h : sort_Entry.f b 35 = some r) : sort_Entry.f a 35 = some r := by
  unfold sort_Entry.f at h ⊢
  split at h
  case isFalse => cases h
  rename_i hc
  rw [if_pos ⟨rfl, near_perm hp hc.2⟩, sort_perm hp hc.2]
  exact h

set_option maxRecDepth 100000 in
set_option maxHeartbeats 4000000 in
theorem scopedv_Balls.calls (a0 : Int) (A1 : Option Addr) (c1 : Nat) (l1 : List S54) (a2 : Nat) (r1 : List S58) (r2 : Int) (w : World) (hr1 : Kd.C k54 w A1 l1.length l1) (hc1 : l1.length ≤ c1) (h : scopedv_Balls.f a0 l1 a2 = some (r1, r2)) :
    Calls Try.prog 9 #[.int .i64 a0, .slice A1 l1.length c1, .float .f64 a2] w fun e w' => ∃ v0_ : Value, e = .returned (.tuple #[v0_, .int .i64 r2]) ∧ Kd.R k58 58 w' w.heap.size (fun _ => True) v0_ r1 ∧ Below w.heap.size w w' := by
  unfold scopedv_Balls.f at h
  rw [Option.bind_eq_some_iff] at h
  obtain ⟨e, he, h⟩ := h
  obtain ⟨kc, he⟩ := evf_some he
  have hmm := @run_makeMap Try.prog
  have hmx : Try.prog.follows .mixedOrders = true := by kernel_rfl
  go_enter Try.func9, Try.ntmps9
  by_cases h0 : e = 0
  · subst h0
    rw [if_neg (by simp), Option.bind_eq_some_iff] at h
    obtain ⟨e2, he2, h⟩ := h
    by_cases h2 : e2 = 0
    · subst h2
      rw [if_neg (by simp)] at h
      split at h
      case isFalse => cases h
      rename_i hsum
      rw [Option.bind_eq_some_iff] at h
      obtain ⟨mf, hmf, h⟩ := h
      rw [Option.bind_eq_some_iff] at h
      obtain ⟨rs, hrs, h⟩ := h
      simp only [Option.some.injEq, Prod.mk.injEq] at h
      obtain ⟨rfl, rfl⟩ := h
      have Hrs := Hid.mk_ hrs
      clear hrs
      go_wp2_with (first
        | (go_at_call 17; refine (landdv_Check.calls kc a0 _ _ l1 0 _ hr1 hc1 he).mono ?_; rintro e' w1 ⟨rfl, hb1⟩)
        | (go_at_call 32; refine (metric_Limit.calls a2 0 _ he2).mono ?_; rintro e' w2 ⟨rfl, ⟨q2, rfl⟩⟩))
      obtain ⟨b, hb⟩ : ∃ b, b = w1.heap.size := ⟨_, rfl⟩
      rw [← hb]
      have Hb := Hid.mk_ hb
      clear hb
      go_loopw [36] (fun v wr => ∃ (i cnt : Nat) (m : List (Int × S58)), v = .int .i64 (i : Int) ∧ i ≤ l1.length ∧ (l1.drop i).foldlM (ballHeard a0 a2) m = some mf ∧ IMap.Own Try.prog 3 decE wr b cnt m ∧ cnt + ((l1.drop i).map fun h => h.f2.length).sum ≤ 1099511627776 ∧ Below w.heap.size w wr)
        (fun v _ => l1.length - (intOf v).toNat)
      case atStart =>
        refine ⟨0, 0, [], rfl, Nat.zero_le _, hmf, ?_, by simpa using hsum, ?_⟩
        · rw [Hb.out]
          exact IMap.own_made _ _ _ _
        · exact Below.alloc (show Below w.heap.size w (w1.drewN q2) from ⟨hb1.os, hb1.tape, hb1.output, hb1.size, hb1.block⟩) hb1.size _
      case round =>
        obtain ⟨i, cnt, m, rfl, hi, hfold, hown, hcnt, hB⟩ := hrel
        rcases Nat.lt_or_ge i l1.length with hlt | hge
        · obtain ⟨ad, A2, c2, rfl, w0, w1, w2, hle, hC2⟩ := at_T54 hr1 i (by omega) (by omega)
          have hx : rd_T54 l1 i = l1[i] := by simp [rd_T54, List.getD_eq_getElem?_getD, hlt]
          rw [hx] at w0 w1 w2 hle hC2
          simp only [Int.toNat_natCast] at w0 w1 w2
          have g0 := (hB.cell (World.block_lt_of_cell? w _ w0)).trans w0
          have g1 := (hB.cell (World.block_lt_of_cell? w _ w1)).trans w1
          have g2 := (hB.cell (World.block_lt_of_cell? w _ w2)).trans w2
          clear hx
          rw [List.drop_eq_getElem_cons hlt, List.foldlM_cons] at hfold
          rw [List.drop_eq_getElem_cons hlt, List.map_cons, List.sum_cons] at hcnt
          generalize l1[i] = hh at *
          obtain ⟨m2, hm2, hfold⟩ := Option.bind_eq_some_iff.1 hfold
          have hp : (0 : Int) ≤ i := by omega
          have hq : (i : Int) < l1.length := by omega
          have hN63 : l1.length ≤ 9223372036854775807 := hr1.2.1
          clear w0 w1 w2
          go_wp2
          obtain ⟨gH, hgH0⟩ : ∃ g, g = wr.heap.size := ⟨_, rfl⟩
          rw [← hgH0]
          have HgH := Hid.mk_ hgH0
          clear hgH0
          obtain ⟨wO, hwO⟩ : ∃ x, x = wr := ⟨_, rfl⟩
          subst hwO
          go_loopw [43] (fun v wq => ∃ (j cnt' : Nat) (m' : List (Int × S58)), v = .int .i64 (j : Int) ∧ j ≤ hh.f2.length ∧ (hh.f2.drop j).foldlM (ballStep a0 a2 hh) m' = some m2 ∧ IMap.Own Try.prog 3 decE wq b cnt' m' ∧ cnt' + (hh.f2.length - j) ≤ cnt + hh.f2.length ∧ Below w.heap.size w wq ∧
              wq.heap[gH]? = some (.cells #[.int .i64 hh.f0, .float .f64 hh.f1, .slice A2 hh.f2.length c2] 54 (0, 0)))
            (fun v _ => hh.f2.length - (intOf v).toNat)
          case atStart =>
            exact ⟨0, cnt, m, rfl, Nat.zero_le _, hm2, hown.alloc _, by omega, hB.alloc hB.size _, by rw [HgH.out]; exact World.alloc_heap_new _ _⟩
          case round =>
            obtain ⟨j, cnt', m', rfl, hj, hfj, howj, hcj, hBj, hbox⟩ := hrel
            rcases Nat.lt_or_ge j hh.f2.length with hlj | hgj
            · obtain ⟨ae, rfl, n0, n1, n2, n3, n4⟩ := at_T56 (Kd.C_below hC2 hBj) j (by omega) (by omega)
              have hx : rd_T56 hh.f2 j = hh.f2[j] := by simp [rd_T56, List.getD_eq_getElem?_getD, hlj]
              rw [hx] at n0 n1 n2 n3 n4
              simp only [Int.toNat_natCast] at n0 n1 n2 n3 n4
              clear hx
              rw [List.drop_eq_getElem_cons hlj, List.foldlM_cons] at hfj
              generalize hh.f2[j] = nn at *
              obtain ⟨x0, x1, x2, x3, x4⟩ := nn
              simp only at n0 n1 n2 n3 n4
              obtain ⟨m3, hm3, hfj⟩ := Option.bind_eq_some_iff.1 hfj
              have hjp : (0 : Int) ≤ j := by omega
              have hjq : (j : Int) < hh.f2.length := by omega
              have hh0 := (blk_cell hbox 0).trans rfl
              have hh1 := (blk_cell hbox 1).trans rfl
              have hh2 := (blk_cell hbox 2).trans rfl
              have fin : ∀ W' m3 cnt3, (hh.f2.drop (j + 1)).foldlM (ballStep a0 a2 hh) m3 = some m2 → IMap.Own Try.prog 3 decE W' b cnt3 m3 → cnt3 ≤ cnt' + 1 → Below w.heap.size w W' → W'.heap[gH]? = some (.cells #[.int .i64 hh.f0, .float .f64 hh.f1, .slice (some ae) hh.f2.length c2] 54 (0, 0)) →
                  (∃ (j' cnt' : Nat) (m' : List (Int × S58)), Value.int .i64 ((j : Int) + 1) = .int .i64 (j' : Int) ∧ j' ≤ hh.f2.length ∧ (hh.f2.drop j').foldlM (ballStep a0 a2 hh) m' = some m2 ∧ IMap.Own Try.prog 3 decE W' b cnt' m' ∧ cnt' + (hh.f2.length - j') ≤ cnt + hh.f2.length ∧ Below w.heap.size w W' ∧
                    W'.heap[gH]? = some (.cells #[.int .i64 hh.f0, .float .f64 hh.f1, .slice (some ae) hh.f2.length c2] 54 (0, 0))) :=
                fun W' m3 cnt3 f1 f2 f3 f4 f5 => ⟨j + 1, cnt3, m3, by simp, by omega, f1, f2, by omega, f4, f5⟩
              have hmeas : hh.f2.length - (intOf (Value.int .i64 ((j : Int) + 1))).toNat < hh.f2.length - (intOf (Value.int .i64 (j : Int))).toNat := by simp [intOf]; omega
              have Hfin := Hid.mk_ fin
              have Hmeas := Hid.mk_ hmeas
              clear fin hmeas
              have hBb : w.heap.size ≤ b := by rw [Hb.out]; exact hb1.size
              have hbg : b < gH := by rw [HgH.out]; exact hown.lt
              have hgH : gH < wr.heap.size := (Array.getElem?_eq_some_iff.1 hbox).1
              unfold ballStep at hm3
              by_cases hk : x1 = 2
              · subst hk
                rw [if_neg (by simp)] at hm3
                split at hm3
                case isFalse => cases hm3
                rename_i hwf
                simp only at hwf
                obtain ⟨⟨r1, r2, r3, r4, r5, r6, r7⟩, hkn, hm3⟩ := Option.bind_eq_some_iff.1 hm3
                simp only at hkn hm3
                have Hkn := Hid.mk_ hkn
                have Hm3 := Hid.mk_ hm3
                clear hkn hm3
                cases r7 with
                | false =>
                  have hm3 := Hm3.out
                  clear Hm3
                  rw [if_neg (by simp)] at hm3
                  obtain rfl := Option.some.inj hm3
                  cases hget : IMap.get m' x0 with
                  | none =>
                    go_wp2_with (first | (go_at_call 33; refine (scopedv_known.calls 16 a0 hh.f0 hh.f1 (some ae) c2 hh.f2 x0 2 x2 x3 x4 a2 r1 r2 r3 r4 r5 r6 false _ (by repeat (first | exact (Kd.C_below hC2 hBj) | (with_reducible refine Kd.C_alloc ?_ _) | (with_reducible refine Kd.C_drewN ?_ _) | (with_reducible refine Kd.C_drew ?_))) (by omega) Hkn.out).mono ?_; rintro e w5 ⟨rfl, hb5⟩; have hN5 := Hid.mk_ (blk_below (blk_new wr (.cells #[.int .i64 x0, .int .i64 2, .float .f64 x2, .float .f64 x3, .int .i64 x4] 56)) hb5); have hH5 := Hid.mk_ (blk_below (blk_alloc hbox _) hb5); have how5 := (howj.alloc (.cells #[.int .i64 x0, .int .i64 2, .float .f64 x2, .float .f64 x3, .int .i64 x4] 56)).below hb5; have hB5 : Below w.heap.size w w5 := (hBj.alloc hBj.size _).trans (hb5.mono (by rw [World.size_alloc]; have := hBj.size; omega)); have hs5 : wr.heap.size < w5.heap.size := (by have := hb5.size; rw [World.size_alloc] at this; omega); have nc0 := (blk_cell hN5.out 0).trans rfl; have nf0 := blk_frozen hN5.out 0; clear hb5) | (at_lookup; refine IMap.wpList_get_ok _ (enc := encE) (dec := decE) encE_dec z58 (decE_enc _) rfl (.tmp 59) (.tmp 61) 52 3 58 rfl Try.underlying3 Try.underlying52 rfl b cnt' m' rfl (how5.alloc _) x0 hwf rfl ?_; rw [hget]; simp only [Option.getD_none, Option.isSome_none, Option.getD_some, Option.isSome_some, encE, z58]))
                    go_roundw
                    case rel => exact Hfin.out _ _ _ hfj ((how5.alloc _).alloc _) (by omega) ((hB5.alloc hB5.size _).alloc (by rw [World.size_alloc]; have := hB5.size; omega) _) (blk_alloc (blk_alloc hH5.out _) _)
                    case measure => exact Hmeas.out
                  | some y =>
                    go_wp2_with (first | (go_at_call 33; refine (scopedv_known.calls 16 a0 hh.f0 hh.f1 (some ae) c2 hh.f2 x0 2 x2 x3 x4 a2 r1 r2 r3 r4 r5 r6 false _ (by repeat (first | exact (Kd.C_below hC2 hBj) | (with_reducible refine Kd.C_alloc ?_ _) | (with_reducible refine Kd.C_drewN ?_ _) | (with_reducible refine Kd.C_drew ?_))) (by omega) Hkn.out).mono ?_; rintro e w5 ⟨rfl, hb5⟩; have hN5 := Hid.mk_ (blk_below (blk_new wr (.cells #[.int .i64 x0, .int .i64 2, .float .f64 x2, .float .f64 x3, .int .i64 x4] 56)) hb5); have hH5 := Hid.mk_ (blk_below (blk_alloc hbox _) hb5); have how5 := (howj.alloc (.cells #[.int .i64 x0, .int .i64 2, .float .f64 x2, .float .f64 x3, .int .i64 x4] 56)).below hb5; have hB5 : Below w.heap.size w w5 := (hBj.alloc hBj.size _).trans (hb5.mono (by rw [World.size_alloc]; have := hBj.size; omega)); have hs5 : wr.heap.size < w5.heap.size := (by have := hb5.size; rw [World.size_alloc] at this; omega); have nc0 := (blk_cell hN5.out 0).trans rfl; have nf0 := blk_frozen hN5.out 0; clear hb5) | (at_lookup; refine IMap.wpList_get_ok _ (enc := encE) (dec := decE) encE_dec z58 (decE_enc _) rfl (.tmp 59) (.tmp 61) 52 3 58 rfl Try.underlying3 Try.underlying52 rfl b cnt' m' rfl (how5.alloc _) x0 hwf rfl ?_; rw [hget]; simp only [Option.getD_none, Option.isSome_none, Option.getD_some, Option.isSome_some, encE, z58]))
                    go_roundw
                    case rel => exact Hfin.out _ _ _ hfj ((how5.alloc _).alloc _) (by omega) ((hB5.alloc hB5.size _).alloc (by rw [World.size_alloc]; have := hB5.size; omega) _) (blk_alloc (blk_alloc hH5.out _) _)
                    case measure => exact Hmeas.out
                | true =>
                  have hm3 := Hm3.out
                  clear Hm3
                  rw [if_pos rfl] at hm3
                  cases hget : IMap.get m' x0 with
                  | none =>
                    rw [hget] at hm3
                    simp only at hm3
                    obtain rfl := Option.some.inj hm3
                    go_wp2_with (first | (go_at_call 33; refine (scopedv_known.calls 16 a0 hh.f0 hh.f1 (some ae) c2 hh.f2 x0 2 x2 x3 x4 a2 r1 r2 r3 r4 r5 r6 true _ (by repeat (first | exact (Kd.C_below hC2 hBj) | (with_reducible refine Kd.C_alloc ?_ _) | (with_reducible refine Kd.C_drewN ?_ _) | (with_reducible refine Kd.C_drew ?_))) (by omega) Hkn.out).mono ?_; rintro e w5 ⟨rfl, hb5⟩; have hN5 := Hid.mk_ (blk_below (blk_new wr (.cells #[.int .i64 x0, .int .i64 2, .float .f64 x2, .float .f64 x3, .int .i64 x4] 56)) hb5); have hH5 := Hid.mk_ (blk_below (blk_alloc hbox _) hb5); have how5 := (howj.alloc (.cells #[.int .i64 x0, .int .i64 2, .float .f64 x2, .float .f64 x3, .int .i64 x4] 56)).below hb5; have hB5 : Below w.heap.size w w5 := (hBj.alloc hBj.size _).trans (hb5.mono (by rw [World.size_alloc]; have := hBj.size; omega)); have hs5 : wr.heap.size < w5.heap.size := (by have := hb5.size; rw [World.size_alloc] at this; omega); have nc0 := (blk_cell hN5.out 0).trans rfl; have nf0 := blk_frozen hN5.out 0; clear hb5) | (at_lookup; refine IMap.wpList_get_ok _ (enc := encE) (dec := decE) encE_dec z58 (decE_enc _) rfl (.tmp 59) (.tmp 61) 52 3 58 rfl Try.underlying3 Try.underlying52 rfl b cnt' m' rfl (how5.alloc _) x0 hwf rfl ?_; rw [hget]; simp only [Option.getD_none, Option.isSome_none, Option.getD_some, Option.isSome_some, encE, z58]) | (at_mapUpdate; refine IMap.wpList_put _ (enc := encE) (dec := decE) decE_enc rfl (.tmp 77) (.tmp 79) (.tmp 80) 52 3 58 rfl Try.underlying3 Try.underlying52 b cnt' m' rfl ((how5.alloc _).alloc _) (by unfold maxLen; omega) x0 hwf rfl (⟨r1, r2, r3, r4, r5, r6⟩) rfl ?_; intro w6 hown6 hgr6))
                    go_roundw
                    case rel => exact Hfin.out _ _ _ hfj hown6 (by omega) (Below.grown ((hB5.alloc hB5.size _).alloc (by rw [World.size_alloc]; have := hB5.size; omega) _) hgr6 (by simp; have := hB5.size; omega) (fun k e => by cases e; exact hBb)) (blk_grown (blk_alloc (blk_alloc hH5.out _) _) hgr6 (by intro e; cases e; exact absurd hbg (Nat.lt_irrefl _)))
                    case measure => exact Hmeas.out
                  | some y =>
                    rw [hget] at hm3
                    simp only at hm3
                    by_cases hlt2 : fLt r3 y.f2 = true
                    · rw [if_pos hlt2] at hm3
                      obtain rfl := Option.some.inj hm3
                      go_wp2_with (first | (go_at_call 33; refine (scopedv_known.calls 16 a0 hh.f0 hh.f1 (some ae) c2 hh.f2 x0 2 x2 x3 x4 a2 r1 r2 r3 r4 r5 r6 true _ (by repeat (first | exact (Kd.C_below hC2 hBj) | (with_reducible refine Kd.C_alloc ?_ _) | (with_reducible refine Kd.C_drewN ?_ _) | (with_reducible refine Kd.C_drew ?_))) (by omega) Hkn.out).mono ?_; rintro e w5 ⟨rfl, hb5⟩; have hN5 := Hid.mk_ (blk_below (blk_new wr (.cells #[.int .i64 x0, .int .i64 2, .float .f64 x2, .float .f64 x3, .int .i64 x4] 56)) hb5); have hH5 := Hid.mk_ (blk_below (blk_alloc hbox _) hb5); have how5 := (howj.alloc (.cells #[.int .i64 x0, .int .i64 2, .float .f64 x2, .float .f64 x3, .int .i64 x4] 56)).below hb5; have hB5 : Below w.heap.size w w5 := (hBj.alloc hBj.size _).trans (hb5.mono (by rw [World.size_alloc]; have := hBj.size; omega)); have hs5 : wr.heap.size < w5.heap.size := (by have := hb5.size; rw [World.size_alloc] at this; omega); have nc0 := (blk_cell hN5.out 0).trans rfl; have nf0 := blk_frozen hN5.out 0; clear hb5) | (at_lookup; refine IMap.wpList_get_ok _ (enc := encE) (dec := decE) encE_dec z58 (decE_enc _) rfl (.tmp 59) (.tmp 61) 52 3 58 rfl Try.underlying3 Try.underlying52 rfl b cnt' m' rfl (how5.alloc _) x0 hwf rfl ?_; rw [hget]; simp only [Option.getD_none, Option.isSome_none, Option.getD_some, Option.isSome_some, encE, z58]) | (at_mapUpdate; refine IMap.wpList_put _ (enc := encE) (dec := decE) decE_enc rfl (.tmp 77) (.tmp 79) (.tmp 80) 52 3 58 rfl Try.underlying3 Try.underlying52 b cnt' m' rfl ((how5.alloc _).alloc _) (by unfold maxLen; omega) x0 hwf rfl (⟨r1, r2, r3, r4, r5, r6⟩) rfl ?_; intro w6 hown6 hgr6))
                      go_roundw
                      case rel => exact Hfin.out _ _ _ hfj hown6 (by omega) (Below.grown ((hB5.alloc hB5.size _).alloc (by rw [World.size_alloc]; have := hB5.size; omega) _) hgr6 (by simp; have := hB5.size; omega) (fun k e => by cases e; exact hBb)) (blk_grown (blk_alloc (blk_alloc hH5.out _) _) hgr6 (by intro e; cases e; exact absurd hbg (Nat.lt_irrefl _)))
                      case measure => exact Hmeas.out
                    · rw [if_neg hlt2] at hm3
                      obtain rfl := Option.some.inj hm3
                      replace hlt2 := Bool.eq_false_iff.mpr hlt2
                      go_wp2_with (first | (go_at_call 33; refine (scopedv_known.calls 16 a0 hh.f0 hh.f1 (some ae) c2 hh.f2 x0 2 x2 x3 x4 a2 r1 r2 r3 r4 r5 r6 true _ (by repeat (first | exact (Kd.C_below hC2 hBj) | (with_reducible refine Kd.C_alloc ?_ _) | (with_reducible refine Kd.C_drewN ?_ _) | (with_reducible refine Kd.C_drew ?_))) (by omega) Hkn.out).mono ?_; rintro e w5 ⟨rfl, hb5⟩; have hN5 := Hid.mk_ (blk_below (blk_new wr (.cells #[.int .i64 x0, .int .i64 2, .float .f64 x2, .float .f64 x3, .int .i64 x4] 56)) hb5); have hH5 := Hid.mk_ (blk_below (blk_alloc hbox _) hb5); have how5 := (howj.alloc (.cells #[.int .i64 x0, .int .i64 2, .float .f64 x2, .float .f64 x3, .int .i64 x4] 56)).below hb5; have hB5 : Below w.heap.size w w5 := (hBj.alloc hBj.size _).trans (hb5.mono (by rw [World.size_alloc]; have := hBj.size; omega)); have hs5 : wr.heap.size < w5.heap.size := (by have := hb5.size; rw [World.size_alloc] at this; omega); have nc0 := (blk_cell hN5.out 0).trans rfl; have nf0 := blk_frozen hN5.out 0; clear hb5) | (at_lookup; refine IMap.wpList_get_ok _ (enc := encE) (dec := decE) encE_dec z58 (decE_enc _) rfl (.tmp 59) (.tmp 61) 52 3 58 rfl Try.underlying3 Try.underlying52 rfl b cnt' m' rfl (how5.alloc _) x0 hwf rfl ?_; rw [hget]; simp only [Option.getD_none, Option.isSome_none, Option.getD_some, Option.isSome_some, encE, z58]))
                      go_roundw
                      case rel => exact Hfin.out _ _ _ hfj ((how5.alloc _).alloc _) (by omega) ((hB5.alloc hB5.size _).alloc (by rw [World.size_alloc]; have := hB5.size; omega) _) (blk_alloc (blk_alloc hH5.out _) _)
                      case measure => exact Hmeas.out
              · rw [if_pos hk] at hm3
                obtain rfl := Option.some.inj hm3
                have k0 : (x1 == 2) = false := beq_eq_false_iff_ne.mpr hk
                have k1 : (x1 != 2) = true := bne_iff_ne.mpr hk
                go_wp2
                first
                | exact ⟨Hfin.out _ _ _ hfj (howj.alloc _) (by omega) (hBj.alloc hBj.size _) ((Below.heap_alloc _ _ _ hgH).trans hbox), Hmeas.out⟩
                | exact ⟨⟨_, _, _, _, _, _, Hfin.out _ _ _ hfj (howj.alloc _) (by omega) (hBj.alloc hBj.size _) ((Below.heap_alloc _ _ _ hgH).trans hbox), rfl, rfl, rfl, rfl, rfl, rfl⟩, Hmeas.out⟩
            · have hjl : j = hh.f2.length := by omega
              subst hjl
              rw [List.drop_length, List.foldlM_nil] at hfj
              obtain rfl := Option.some.inj hfj
              have orel : ∃ (i' cnt : Nat) (m : List (Int × S58)), Value.int .i64 ((i : Int) + 1) = .int .i64 (i' : Int) ∧ i' ≤ l1.length ∧ (l1.drop i').foldlM (ballHeard a0 a2) m = some mf ∧ IMap.Own Try.prog 3 decE wr b cnt m ∧ cnt + ((l1.drop i').map fun h => h.f2.length).sum ≤ 1099511627776 ∧ Below w.heap.size w wr :=
                ⟨i + 1, cnt', m', by simp, by omega, hfold, howj, by omega, hBj⟩
              have omeas : l1.length - (intOf (Value.int .i64 ((i : Int) + 1))).toNat < l1.length - (intOf (Value.int .i64 (i : Int))).toNat := by simp [intOf]; omega
              have Orel := Hid.mk_ orel
              have Omeas := Hid.mk_ omeas
              clear orel omeas
              go_wp2
              refine ⟨?_, Omeas.out⟩
              exact Orel.out
        · have hil : i = l1.length := by omega
          subst hil
          rw [List.drop_length, List.foldlM_nil] at hfold
          obtain rfl := Option.some.inj hfold
          clear hmf
          have hBb : w.heap.size ≤ b := by rw [Hb.out]; exact hb1.size
          have hrise := hown.rising Try.underlying3
          have hml : m.length ≤ 1099511627776 := by
            have := hown.len
            omega
          go_wp2_with (at_range; refine wpList_range_own _ rfl _ 52 rfl 3 58 (int_keyed Try.underlying3) Try.underlying52 _ b cnt (IMap.dat m) rfl hown ?_; intro w0 hrg0 hg0 hs0)
          go_frame
          have hRI : w.heap.size ≤ wr.heap.size := hB.size
          have hB0 : Below w.heap.size w w0 := Below.grown hB hg0 hB.size (fun k e => by cases e)
          obtain ⟨rI, hrI⟩ : ∃ r, r = wr.heap.size := ⟨_, rfl⟩
          rw [← hrI] at hrg0 hRI ⊢
          clear hrI hown hB hg0 hs0
          go_loopw [19] (fun vo wq => ∃ (ys : List S58) (left : Lit → Bool) (cn : Nat), wq.ranges Try.prog 3 (IMap.rdr decE) b rI cnt (IMap.dat m) left cn ∧ (ys ++ restOf left m).Perm (m.map (·.2)) ∧ wq.ownsRow w.heap.size 58 6 vo ys.length (ys.flatMap encEl) ∧ Below w.heap.size w wq)
            (fun _ wq => wq.rangeLeft b rI)
          case atStart => exact ⟨[], _, _, hrg0, by rw [rest_start hrise]; exact List.Perm.refl _, World.ownsRow_nil _ _ _ _, hB0⟩
          case round =>
            obtain ⟨ys, left, cn, hrg, hperm, hout, hBq⟩ := hrel
            go_wp2_with (at_next; refine wpList_next_ranges _ rfl _ rfl 3 (int_keyed Try.underlying3) (IMap.rdr decE) (Value.int .i64) encE (fun key kl hkey => by obtain ⟨x, rfl, _⟩ := Maps.keyOf_int_inv Try.underlying3 hkey; exact ⟨x, rfl⟩) (fun v y hv => by
              unfold IMap.rdr at hv
              obtain ⟨c, hc, _⟩ := Option.map_eq_some_iff.1 hv
              exact ⟨c, encE_dec v c hc⟩) b rI cnt _ left cn rfl hrg ?_ ?_)
            · intro hc0 hl0
              rw [rest_none hl0, List.append_nil] at hperm
              have hreps := (Go.Proofs.YtjkhckbfkinheaaW.SortB.reps_flat (R := k58.M wr w.heap.size (fun k => True ∧ some k ≠ u19.ownBlock)) id encEl 6 (fun _ => rfl) (fun x cs => ⟨fun h => k58_openM h, fun h => by subst h; exact k58_mkM _ _ _ x⟩) ys _).2 rfl
              rw [List.map_id] at hreps
              have hR : Kd.R k58 58 wr w.heap.size (fun _ => True) u19 ys := ⟨fun _ _ => trivial, _, hout, hreps⟩
              have hsrt := sort_same hperm Hrs.out
              have HR := Hid.mk_ hR
              have HS := Hid.mk_ hsrt
              clear hR hsrt hreps hout hperm
              go_wp2_with (go_at_call 34; refine (sort_Entry.calls (fun _ => True) _ ys 35 rs w _ hBq HR.out HS.out).mono ?_; rintro e' w7 ⟨rfl, hR7, hB7, hK7⟩)
              go_ret2
              exact ⟨_, rfl, Kd.R_mono hR7 (fun _ _ => trivial), hB7⟩
            · intro x c kl yd yp w5 cn5 hkey hlk hv hat hrg5 hlt5 hg5 hs5 hen
              obtain ⟨x', ex, rfl, hwx⟩ := Maps.keyOf_int_inv Try.underlying3 hkey
              cases ex
              have hy : yd = .held c := by
                have e1 : IMap.rdr decE (encE c) = some (.held c, []) := by simp [IMap.rdr, decE_enc]
                rw [e1] at hv
                exact (congrArg Prod.fst (Option.some.inj hv)).symm
              have hget := get_of_at (m := m) (x := x) (c := c) (fun zd => by rw [hat zd, hy])
              have hst := rest_strike hlk hrise hget
              have hperm5 : ((ys ++ [c]) ++ restOf (fun z => left z && !z.sameKey (.int .i64 x)) m).Perm (m.map (·.2)) := by
                refine List.Perm.trans ?_ hperm
                rw [List.append_assoc]
                exact List.Perm.append_left _ hst.symm
              have hlen : ys.length + 1 ≤ m.length := by
                have := hperm5.length_eq
                simp at this
                omega
              have hneI : u19.ownBlock = none ∨ u19.ownBlock ≠ some rI := by
                cases hob : u19.ownBlock with
                | none => exact .inl rfl
                | some k =>
                  refine .inr fun e => ?_
                  obtain ⟨cells, hcl⟩ := own_typed hout k hob
                  obtain ⟨es, clock, since, seen, c0, _, _, _, _, hri, _⟩ := hrg
                  injection e with e
                  rw [e, hri] at hcl
                  cases hcl
              have hout5 := own_other hout hg5 hneI
              have hB5 : Below w.heap.size w w5 := Below.grown hBq hg5 hBq.size (fun k e => by cases e; exact hRI)
              have hmb : ∃ es cl, w5.heap[b]? = some (.map es cl) := Own_heap hrg5.owns
              obtain ⟨esb, clb, hmb⟩ := hmb
              have hneM : some b ≠ u19.ownBlock := own_ne_map hout5 hmb
              have hneI5 : some rI ≠ u19.ownBlock := by
                rcases hneI with h | h
                · rw [h]
                  simp
                · exact fun e => h e.symm
              have hle : cn5 < cn := hlt5
              have hl1 := hrg.left_eq
              have hnews : ∀ j v, (encEl c)[j]? = some v → ((w5.alloc (.cells #[.int .i64 c.f0, .int .i64 c.f1, .float .f64 c.f2, .int .i64 c.f3, .float .f64 c.f4, .int .i64 c.f5] 58)).alloc (.cells #[.int .i64 c.f0, .int .i64 c.f1, .float .f64 c.f2, .int .i64 c.f3, .float .f64 c.f4, .int .i64 c.f5] 58)).cell? ((⟨w5.heap.size + 1, 0, none⟩ : Addr).add j) = some v := fun j v hj => by
                have hadd : (⟨w5.heap.size + 1, 0, none⟩ : Addr).add j = ⟨w5.heap.size + 1, j, none⟩ := by
                  unfold Addr.add
                  split
                  · rename_i h
                    rw [h]
                  · simp
                have hT := blk_new (w5.alloc (.cells #[.int .i64 c.f0, .int .i64 c.f1, .float .f64 c.f2, .int .i64 c.f3, .float .f64 c.f4, .int .i64 c.f5] 58)) (.cells #[.int .i64 c.f0, .int .i64 c.f1, .float .f64 c.f2, .int .i64 c.f3, .float .f64 c.f4, .int .i64 c.f5] 58)
                rw [World.size_alloc] at hT
                rw [hadd, blk_cell hT j]
                simpa [encEl] using hj
              obtain ⟨ti, e1, e2, e3, e4⟩ := einfo
              have Hnews := Hid.mk_ hnews
              have Hperm := Hid.mk_ hperm5
              have Hmap := Hid.mk_ hmb
              have Hl1 := Hid.mk_ hl1
              have hwq : w.heap.size ≤ w5.heap.size := hB5.size
              unfold encE at hen
              have htk : ys.flatMap encEl ++ encEl c = (ys ++ [c]).flatMap encEl := by simp
              have Htk := Hid.mk_ htk
              clear hnews hperm5 hmb hl1 hv hy hat hget hst hperm htk hs5
              go_wp2_with (at_builtin; refine wpList_append_own _ rfl (.tmp 89) (.tmp 91) 24 rfl w.heap.size 58 ti _ 6 48 Try.underlying24 e1 e2 e3 e4 rfl (by decide) u19 ys.length _ rfl ((hout5.alloc _).alloc _) ⟨w5.heap.size + 1, 0, none⟩ 1 1 (encEl c) rfl rfl Hnews.out (by simp [encEl, Value.oneCell']) (by simp only [maxLen]; omega) (by omega) (by simp; omega) ?_; intro v6 w6 hown6 hgr6 hnil6; obtain ⟨g6, c6, rfl⟩ := ownsRow_succ hown6)
              have hrg6 := ((hrg5.alloc (.cells #[.int .i64 c.f0, .int .i64 c.f1, .float .f64 c.f2, .int .i64 c.f3, .float .f64 c.f4, .int .i64 c.f5] 58)).alloc (.cells #[.int .i64 c.f0, .int .i64 c.f1, .float .f64 c.f2, .int .i64 c.f3, .float .f64 c.f4, .int .i64 c.f5] 58)).kept hgr6 hneM hneI5
              have frel : ∃ (ys' : List S58) (left' : Lit → Bool) (cn' : Nat), w6.ranges Try.prog 3 (IMap.rdr decE) b rI cnt (IMap.dat m) left' cn' ∧ (ys' ++ restOf left' m).Perm (m.map (·.2)) ∧ w6.ownsRow w.heap.size 58 6 (.slice (some ⟨g6, 0, none⟩) (ys.length + 1) c6) ys'.length (ys'.flatMap encEl) ∧ Below w.heap.size w w6 :=
                ⟨ys ++ [c], _, _, hrg6, Hperm.out, by rw [← Htk.out, List.length_append]; exact hown6, Below.grown ((hB5.alloc hB5.size (.cells #[.int .i64 c.f0, .int .i64 c.f1, .float .f64 c.f2, .int .i64 c.f3, .float .f64 c.f4, .int .i64 c.f5] 58)).alloc (by rw [World.size_alloc]; omega) (.cells #[.int .i64 c.f0, .int .i64 c.f1, .float .f64 c.f2, .int .i64 c.f3, .float .f64 c.f4, .int .i64 c.f5] 58)) hgr6 (by simp; omega) (fun k e => own_base hout k e)⟩
              have fmeas : w6.rangeLeft b rI < wr.rangeLeft b rI := by
                rw [hrg6.left_eq, Hl1.out]
                exact hle
              go_roundw
              case rel => exact frel
              case measure => exact fmeas
    · rw [if_pos h2] at h
      simp only [Option.some.injEq, Prod.mk.injEq] at h
      obtain ⟨rfl, rfl⟩ := h
      go_wp2_with (first
        | (go_at_call 17; refine (landdv_Check.calls kc a0 _ _ l1 0 _ hr1 hc1 he).mono ?_; rintro e' w1 ⟨rfl, hb1⟩)
        | (go_at_call 32; refine (metric_Limit.calls a2 e2 _ he2).mono ?_; rintro e' w2 ⟨rfl, ⟨q2, rfl⟩⟩))
      go_ret2
      exact ⟨_, rfl, Kd.R_nil _ _ _ _ _, ⟨hb1.os, hb1.tape, hb1.output, hb1.size, hb1.block⟩⟩
  · rw [if_pos h0] at h
    simp only [Option.some.injEq, Prod.mk.injEq] at h
    obtain ⟨rfl, rfl⟩ := h
    go_wp2_with (go_at_call 17; refine (landdv_Check.calls kc a0 _ _ l1 e _ hr1 hc1 he).mono ?_; rintro e' w1 ⟨rfl, hb1⟩)
    go_ret2
    exact ⟨_, rfl, Kd.R_nil _ _ _ _ _, hb1⟩
end Go.Proofs.Ytjkhckbfkinheaa.GAa
