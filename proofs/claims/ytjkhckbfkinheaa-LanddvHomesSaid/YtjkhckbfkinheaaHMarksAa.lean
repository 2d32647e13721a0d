/- landdv.Marks: a map by destination, then its keys in order. -/
import Derived.Test.YtjkhckbfkinheaaIMap
import Derived.Test.YtjkhckbfkinheaaSortB
import Derived.Test.YtjkhckbfkinheaaShelf
import Derived.Test.YtjkhckbfkinheaaHDiffAa
import Derived.LoopTactic
import Derived.Deep.RegionWith
import Derived.Shelf.Abstract
import Derived.Shelf.RegionOpenPlain
import Derived.Test.YtjkhckbfkinheaaGAax10
import Derived.Test.YtjkhckbfkinheaaGAax12
import Derived.Test.YtjkhckbfkinheaaGAax13
set_option linter.unusedVariables false
set_option linter.unusedSimpArgs false
namespace Go.Proofs.Ytjkhckbfkinheaa.GAa
open Go Go.RowKit Go.Shelf Go.Proofs.YtjkhckbfkinheaaW.PrintWords Go.Proofs.YtjkhckbfkinheaaW.PrintLast Go.Proofs.YtjkhckbfkinheaaW.PrintMore
open Go.Proofs.YtjkhckbfkinheaaW
attribute [local go_sem high] binOp_flss binOp_fgtr binOp_fleq binOp_fgeq binOp_feql binOp_fneq

/-- What a function with fuel comes to. -/
noncomputable def evf {α : Type} (f : Nat → Option α) : Option α := open Classical in if h : ∃ r, ∃ k, f k = some r then some (Classical.choose h) else none
theorem evf_some {α : Type} {f : Nat → Option α} {r : α} (h : evf f = some r) : ∃ k, f k = some r := by
  unfold evf at h
  split at h
  · rename_i hx
    obtain rfl := Option.some.inj h
    exact Classical.choose_spec hx
  · cases h

def encE (x : S58) : Value := .agg #[.int .i64 x.f0, .int .i64 x.f1, .float .f64 x.f2, .int .i64 x.f3, .float .f64 x.f4, .int .i64 x.f5]
def decL : List Value → Option S58
  | [.int .i64 a, .int .i64 b, .float .f64 c, .int .i64 d, .float .f64 e, .int .i64 f] => some ⟨a, b, c, d, e, f⟩
  | _ => none
def decE : Value → Option S58
  | .agg cs => decL cs.toList
  | _ => none
theorem decE_enc (x : S58) : decE (encE x) = some x := rfl
theorem decL_is (l : List Value) (x : S58) (h : decL l = some x) : l = [.int .i64 x.f0, .int .i64 x.f1, .float .f64 x.f2, .int .i64 x.f3, .float .f64 x.f4, .int .i64 x.f5] := by
  unfold decL at h
  split at h
  · obtain rfl := Option.some.inj h
    rfl
  · cases h
theorem encE_dec (v : Value) (x : S58) (h : decE v = some x) : v = encE x := by
  cases v with
  | agg cs =>
    have := decL_is cs.toList x h
    unfold encE
    rw [← this]
  | _ => cases h
/-- Six stores, over the whole of a block of six cells. -/
theorem six_set {W : World} {g : Nat} {t : TypeId} {c0 c1 c2 c3 c4 c5 : Value} (h : W.heap[g]? = some (.cells #[c0, c1, c2, c3, c4, c5] t (0, 0))) (y0 y1 y2 y3 y4 y5 : Value) :
    ((((((W.setCell ⟨g, 0, none⟩ y0).setCell ⟨g, 1, none⟩ y1).setCell ⟨g, 2, none⟩ y2).setCell ⟨g, 3, none⟩ y3).setCell ⟨g, 4, none⟩ y4).setCell ⟨g, 5, none⟩ y5).heap[g]? = some (.cells #[y0, y1, y2, y3, y4, y5] t (0, 0)) ∧
      Below g W ((((((W.setCell ⟨g, 0, none⟩ y0).setCell ⟨g, 1, none⟩ y1).setCell ⟨g, 2, none⟩ y2).setCell ⟨g, 3, none⟩ y3).setCell ⟨g, 4, none⟩ y4).setCell ⟨g, 5, none⟩ y5) :=
  ⟨(blk_set (blk_set (blk_set (blk_set (blk_set (blk_set h 0 y0) 1 y1) 2 y2) 3 y3) 4 y4) 5 y5),
    (((((((Below.refl g W).setCell (p := ⟨g, 0, none⟩) (Nat.le_refl _) y0).setCell (p := ⟨g, 1, none⟩) (Nat.le_refl _) y1).setCell (p := ⟨g, 2, none⟩) (Nat.le_refl _) y2).setCell (p := ⟨g, 3, none⟩) (Nat.le_refl _) y3).setCell (p := ⟨g, 4, none⟩) (Nat.le_refl _) y4).setCell (p := ⟨g, 5, none⟩) (Nat.le_refl _) y5)⟩
theorem Hid.mk_ {p : Prop} (h : p) : Hid p := h
/-- The keys of a map with rising keys, in whatever order they come, sorted. -/
theorem keys_sorted {m : List (Int × S58)} (hm : m.Pairwise (fun p q => p.1 < q.1)) {ss : List Int} (h : ss.Perm (intKeys (IMap.dat m))) : ss.mergeSort (fun x y => decide (x ≤ y)) = m.map (·.1) := by
  have hk : intKeys (IMap.dat m) = m.map (·.1) := by
    unfold intKeys IMap.dat
    simp only
    rw [List.map_map]
    exact List.map_congr_left (fun p _ => rfl)
  rw [hk] at h
  refine List.Perm.eq_of_pairwise (le := fun a b : Int => a ≤ b) (fun a b _ _ h1 h2 => Int.le_antisymm h1 h2) ?_ ?_ ((List.mergeSort_perm _ _).trans h)
  · exact (List.pairwise_mergeSort (fun a b c h1 h2 => by simp at *; omega) (fun a b => by simp; omega) ss).imp (fun h => by simpa using h)
  · rw [List.pairwise_map]
    exact hm.imp (fun h => Int.le_of_lt h)
theorem get_at {α : Type} : ∀ {m : List (Int × α)} (_ : m.Pairwise (fun p q => p.1 < q.1)) (i : Nat) (hi : i < m.length), IMap.get m (m[i]).1 = some (m[i]).2
  | [], _, i, hi => by simp at hi
  | p :: r, hm, i, hi => by
    rw [List.pairwise_cons] at hm
    cases i with
    | zero => simp [IMap.get]
    | succ i =>
      have hi' : i < r.length := by simpa using hi
      have hne : ¬ p.1 = (r[i]).1 := fun e => by
        have := hm.1 _ (List.getElem_mem hi')
        omega
      have ih := get_at hm.2 i hi'
      unfold IMap.get at ih ⊢
      rw [List.find?_cons]
      simpa [hne] using ih
def encEl (x : S58) : List Value := [.int .i64 x.f0, .int .i64 x.f1, .float .f64 x.f2, .int .i64 x.f3, .float .f64 x.f4, .int .i64 x.f5]
theorem einfo : ∃ i, Try.prog.info? 58 = some i ∧ i.zero = some (.agg #[(.int .i64 0), (.int .i64 0), (.float .f64 0), (.int .i64 0), (.float .f64 0), (.int .i64 0)]) ∧ i.size = 6 ∧ i.bytes = 48 := by
  obtain ⟨i, h1, h2, h3, h4⟩ := info_parts info58
  exact ⟨i, h1, h2, h3, h4⟩
theorem own_ne_map {W : World} {base e size n b : Nat} {v : Value} {xs : List Value} (h : W.ownsRow base e size v n xs) {es : _} {cl : _} (hb : W.heap[b]? = some (.map es cl)) : some b ≠ v.ownBlock := by
  intro e'
  obtain ⟨cells, hc⟩ := own_typed h b e'.symm
  rw [hb] at hc
  cases hc
theorem Own_heap {P : Program} {k : TypeId} {dec : Value → Option S58} {w : World} {b n : Nat} {m : List (Int × S58)} (h : IMap.Own P k dec w b n m) : ∃ es cl, w.heap[b]? = some (.map es cl) := by
  obtain ⟨es, clock, hb, _⟩ := h
  exact ⟨es, clock, hb⟩
theorem sortsA (m : Nat) : AnyZI.SortsIn Try.prog Try.sortedA_ren Fence.wide m :=
  ⟨fun blk off cap ss W hH hblk hsz => callsIn_wide.2 (AnyM.slices_Sort_int Try.sortA blk off cap ss W hH hblk hsz),
   fun p cap W => callsIn_wide.2 (AnyM.slices_Sort_int_none Try.sortA p cap W)⟩
/-- 'slices.Sorted(maps.Keys(m))'. -/
theorem sorted_keys (b n : Nat) (m : List (Int × S58)) (wr : World) (hown : IMap.Own Try.prog 3 decE wr b n m) (hmax : m.length ≤ 1099511627776) :
    Calls Try.prog 42 #[.func (.func 76) #[] #[.pointer (some ⟨wr.heap.size, 0, none⟩)]] (wr.alloc (.cells #[.map (some b)] 52)) fun e w' => ∃ v, e = .returned v ∧
      w'.ownsRow wr.heap.size 3 1 v m.length ((m.map (·.1)).map encZ) ∧ Below wr.heap.size wr w' := by
  have hbl := hown.lt
  have hsz : Maps.size (IMap.dat m) = m.length := by simp [Maps.size, IMap.dat]
  have hseq : SeqGives Fence.wide 2 Try.prog 76 #[.pointer (some ⟨wr.heap.size, 0, none⟩)] encZ (fun ss => ss.Perm (intKeys (IMap.dat m))) (Maps.size (IMap.dat m)) (wr.alloc (.cells #[.map (some b)] 52)) :=
    AnyZI.keys_gives (ρ := Try.keysA_ren) { Try.keysA with } Fence.wide _ trivial rfl (by omega) wr.heap.size b n (IMap.dat m) _ (by simp) (by simp) (by
      obtain ⟨es, clock, hb, Ft, hs, hD⟩ := hown
      exact ⟨es, clock, (Below.heap_alloc _ _ b hbl).trans hb, Ft, hs, hD⟩)
  have cS := AnyZI.sorted_in Try.sortedA Fence.wide 5 trivial trivial trivial trivial rfl (by omega) (sortsA _) (enters_of Try.func75 (by kernel_rfl) rfl) 76 #[.pointer (some ⟨wr.heap.size, 0, none⟩)] trivial (enters_of Try.func76 (by kernel_rfl) rfl) _ _ (by rw [hsz]; unfold maxLen; omega) (by rw [hsz]; omega) _ hseq
  change CallsIn _ _ Try.prog 42 _ _ _ at cS
  refine (callsIn_wide.1 cS).mono ?_
  rintro e w' ⟨v, ss, rfl, hS, hrow, hnil, hb⟩
  have hlen : ss.length = m.length := by
    have := hS.length_eq
    simpa [intKeys, IMap.dat] using this
  have hks := keys_sorted (hown.rising Try.underlying3) hS
  refine ⟨v, rfl, ?_, ((Below.refl _ wr).alloc (Nat.le_refl _) _).trans (hb.mono (by simp))⟩
  rw [← hks, ← hlen]
  exact ownsRow_base_a hrow (by simp)
def markStep (self : Int) (max : Nat) (h : S54) (m : List (Int × S58)) (n : S56) : Option (List (Int × S58)) :=
  if n.f1 ≠ 1 ∨ n.f0 = self then some m
  else if (Lit.int .i64 n.f0).wf = true then
    (metric_Add.f 16 h.f1 n.f2 max).bind fun d =>
      let x := (IMap.get m n.f0).getD ⟨n.f0, 1, 9218868437227405312, 0, 0, 0⟩
      some (IMap.put n.f0 (if fLt d x.f2 = true then ⟨x.f0, x.f1, d, h.f0, x.f4, x.f5⟩ else x) m)
  else none
def markHeard (self : Int) (max : Nat) (m : List (Int × S58)) (h : S54) : Option (List (Int × S58)) := h.f2.foldlM (markStep self max h) m
theorem put_mem {α : Type} {k : Int} {x : α} {m : List (Int × α)} {p : Int × α} (h : p ∈ IMap.put k x m) : p = (k, x) ∨ p ∈ m := by
  have ins : ∀ (l : List (Int × α)), p ∈ IMap.ins (k, x) l → p = (k, x) ∨ p ∈ l := by
    intro l
    induction l with
    | nil => intro h; exact .inl (by simpa [IMap.ins] using h)
    | cons y r ih =>
      intro h
      unfold IMap.ins at h
      split at h
      · rcases List.mem_cons.1 h with h | h
        · exact .inl h
        · exact .inr h
      · rcases List.mem_cons.1 h with h | h
        · exact .inr (h ▸ List.mem_cons_self)
        · rcases ih h with h | h
          · exact .inl h
          · exact .inr (List.mem_cons_of_mem _ h)
  rcases ins _ h with h | h
  · exact .inl h
  · exact .inr (List.mem_filter.1 h).1
def AllWf (m : List (Int × S58)) : Prop := ∀ p ∈ m, (Lit.int .i64 p.1).wf = true
theorem foldlM_keep {α β : Type} {f : α → β → Option α} (I : α → Prop) (hf : ∀ a b a', I a → f a b = some a' → I a') : ∀ (l : List β) (a a' : α), I a → l.foldlM f a = some a' → I a'
  | [], a, a', h, e => by
    obtain rfl := Option.some.inj e
    exact h
  | b :: r, a, a', h, e => by
    rw [List.foldlM_cons] at e
    obtain ⟨a1, e1, e2⟩ := Option.bind_eq_some_iff.1 e
    exact foldlM_keep I hf r a1 a' (hf _ _ _ h e1) e2
theorem step_wf {self : Int} {max : Nat} {h : S54} {m m' : List (Int × S58)} {n : S56} (hm : AllWf m) (e : markStep self max h m n = some m') : AllWf m' := by
  unfold markStep at e
  split at e
  · obtain rfl := Option.some.inj e
    exact hm
  · split at e
    · rename_i hwf
      obtain ⟨d, hd, e⟩ := Option.bind_eq_some_iff.1 e
      obtain rfl := Option.some.inj e
      intro p hp
      rcases put_mem hp with rfl | hp
      · exact hwf
      · exact hm p hp
    · cases e
theorem marks_wf {self : Int} {max : Nat} {l : List S54} {m : List (Int × S58)} (e : l.foldlM (markHeard self max) [] = some m) : AllWf m :=
  foldlM_keep AllWf (fun a b a' ha hb => foldlM_keep AllWf (fun _ _ _ h e => step_wf h e) b.f2 a a' ha hb) l [] m (by intro p hp; cases hp) e
noncomputable def landdv_Marks.f (a0 : Int) (l1 : List S54) (a2 : Nat) : Option (List S58 × Int) :=
  (evf fun k => landdv_Check.f k a0 l1).bind fun e => if e ≠ 0 then some ([], e) else
  (metric_Limit.f a2).bind fun e2 => if e2 ≠ 0 then some ([], e2) else
  if (l1.map fun h => h.f2.length).sum ≤ 1099511627776 then (l1.foldlM (markHeard a0 a2) []).bind fun m => some (m.map (·.2), 0) else none

set_option maxRecDepth 100000 in
set_option maxHeartbeats 4000000 in
theorem landdv_Marks.calls (a0 : Int) (A1 : Option Addr) (c1 : Nat) (l1 : List S54) (a2 : Nat) (r1 : List S58) (r2 : Int) (w : World) (hr1 : Kd.C k54 w A1 l1.length l1) (hc1 : l1.length ≤ c1) (h : landdv_Marks.f a0 l1 a2 = some (r1, r2)) :
    Calls Try.prog 13 #[.int .i64 a0, .slice A1 l1.length c1, .float .f64 a2] w fun e w' => ∃ v0_ : Value, e = .returned (.tuple #[v0_, .int .i64 r2]) ∧ Kd.R k58 58 w' w.heap.size (fun _ => True) v0_ r1 ∧ Below w.heap.size w w' := by
  unfold landdv_Marks.f at h
  rw [Option.bind_eq_some_iff] at h
  obtain ⟨e, he, h⟩ := h
  obtain ⟨kc, he⟩ := evf_some he
  have hmm := @run_makeMap Try.prog
  have hmx : Try.prog.follows .mixedOrders = true := by kernel_rfl
  go_enter Try.func13, Try.ntmps13
  by_cases h0 : e = 0
  · subst h0
    rw [if_neg (by simp), Option.bind_eq_some_iff] at h
    obtain ⟨e2, he2, h⟩ := h
    by_cases h2 : e2 = 0
    · subst h2
      rw [if_neg (by simp)] at h
      split at h
      case isFalse => cases h
      rename_i hsum
      rw [Option.bind_eq_some_iff] at h
      obtain ⟨mf, hmf, h⟩ := h
      simp only [Option.some.injEq, Prod.mk.injEq] at h
      obtain ⟨rfl, rfl⟩ := h
      go_wp2_with (first
        | (go_at_call 17; refine (landdv_Check.calls kc a0 _ _ l1 0 _ hr1 hc1 he).mono ?_; rintro e' w1 ⟨rfl, hb1⟩)
        | (go_at_call 32; refine (metric_Limit.calls a2 0 _ he2).mono ?_; rintro e' w2 ⟨rfl, ⟨q2, rfl⟩⟩))
      have hwfm := Hid.mk_ (marks_wf hmf)
      obtain ⟨b, hb⟩ : ∃ b, b = w1.heap.size := ⟨_, rfl⟩
      rw [← hb]
      have Hb := Hid.mk_ hb
      clear hb
      go_loopw [35] (fun v wr => ∃ (i cnt : Nat) (m : List (Int × S58)), v = .int .i64 (i : Int) ∧ i ≤ l1.length ∧ (l1.drop i).foldlM (markHeard a0 a2) m = some mf ∧ IMap.Own Try.prog 3 decE wr b cnt m ∧ cnt + ((l1.drop i).map fun h => h.f2.length).sum ≤ 1099511627776 ∧ Below w.heap.size w wr)
        (fun v _ => l1.length - (intOf v).toNat)
      case atStart =>
        refine ⟨0, 0, [], rfl, Nat.zero_le _, hmf, ?_, by simpa using hsum, ?_⟩
        · rw [Hb.out]
          exact IMap.own_made _ _ _ _
        · exact Below.alloc (show Below w.heap.size w (w1.drewN q2) from ⟨hb1.os, hb1.tape, hb1.output, hb1.size, hb1.block⟩) hb1.size _
      case round =>
        obtain ⟨i, cnt, m, rfl, hi, hfold, hown, hcnt, hB⟩ := hrel
        rcases Nat.lt_or_ge i l1.length with hlt | hge
        · obtain ⟨ad, A2, c2, rfl, w0, w1, w2, hle, hC2⟩ := at_T54 hr1 i (by omega) (by omega)
          have hx : rd_T54 l1 i = l1[i] := by simp [rd_T54, List.getD_eq_getElem?_getD, hlt]
          rw [hx] at w0 w1 w2 hle hC2
          simp only [Int.toNat_natCast] at w0 w1 w2
          have g0 := (hB.cell (World.block_lt_of_cell? w _ w0)).trans w0
          have g1 := (hB.cell (World.block_lt_of_cell? w _ w1)).trans w1
          have g2 := (hB.cell (World.block_lt_of_cell? w _ w2)).trans w2
          clear hx
          rw [List.drop_eq_getElem_cons hlt, List.foldlM_cons] at hfold
          rw [List.drop_eq_getElem_cons hlt, List.map_cons, List.sum_cons] at hcnt
          generalize l1[i] = hh at *
          obtain ⟨m2, hm2, hfold⟩ := Option.bind_eq_some_iff.1 hfold
          have hp : (0 : Int) ≤ i := by omega
          have hq : (i : Int) < l1.length := by omega
          have hN63 : l1.length ≤ 9223372036854775807 := hr1.2.1
          clear w0 w1 w2
          go_wp2
          obtain ⟨gH, hgH0⟩ : ∃ g, g = wr.heap.size := ⟨_, rfl⟩
          rw [← hgH0]
          have HgH := Hid.mk_ hgH0
          clear hgH0
          obtain ⟨wO, hwO⟩ : ∃ x, x = wr := ⟨_, rfl⟩
          subst hwO
          go_loopw [42] (fun v wq => ∃ (j cnt' : Nat) (m' : List (Int × S58)), v = .int .i64 (j : Int) ∧ j ≤ hh.f2.length ∧ (hh.f2.drop j).foldlM (markStep a0 a2 hh) m' = some m2 ∧ IMap.Own Try.prog 3 decE wq b cnt' m' ∧ cnt' + (hh.f2.length - j) ≤ cnt + hh.f2.length ∧ Below w.heap.size w wq ∧
              wq.heap[gH]? = some (.cells #[.int .i64 hh.f0, .float .f64 hh.f1, .slice A2 hh.f2.length c2] 54 (0, 0)))
            (fun v _ => hh.f2.length - (intOf v).toNat)
          case atStart =>
            exact ⟨0, cnt, m, rfl, Nat.zero_le _, hm2, hown.alloc _, by omega, hB.alloc hB.size _, by rw [HgH.out]; exact World.alloc_heap_new _ _⟩
          case round =>
            obtain ⟨j, cnt', m', rfl, hj, hfj, howj, hcj, hBj, hbox⟩ := hrel
            rcases Nat.lt_or_ge j hh.f2.length with hlj | hgj
            · obtain ⟨ae, rfl, n0, n1, n2, n3, n4⟩ := at_T56 (Kd.C_below hC2 hBj) j (by omega) (by omega)
              have hx : rd_T56 hh.f2 j = hh.f2[j] := by simp [rd_T56, List.getD_eq_getElem?_getD, hlj]
              rw [hx] at n0 n1 n2 n3 n4
              simp only [Int.toNat_natCast] at n0 n1 n2 n3 n4
              clear hx
              rw [List.drop_eq_getElem_cons hlj, List.foldlM_cons] at hfj
              generalize hh.f2[j] = nn at *
              obtain ⟨m3, hm3, hfj⟩ := Option.bind_eq_some_iff.1 hfj
              have hjp : (0 : Int) ≤ j := by omega
              have hjq : (j : Int) < hh.f2.length := by omega
              have hh0 := (blk_cell hbox 0).trans rfl
              have hh1 := (blk_cell hbox 1).trans rfl
              have hh2 := (blk_cell hbox 2).trans rfl
              have fin : ∀ W' m3 cnt3, (hh.f2.drop (j + 1)).foldlM (markStep a0 a2 hh) m3 = some m2 → IMap.Own Try.prog 3 decE W' b cnt3 m3 → cnt3 ≤ cnt' + 1 → Below w.heap.size w W' → W'.heap[gH]? = some (.cells #[.int .i64 hh.f0, .float .f64 hh.f1, .slice (some ae) hh.f2.length c2] 54 (0, 0)) →
                  (∃ (j' cnt' : Nat) (m' : List (Int × S58)), Value.int .i64 ((j : Int) + 1) = .int .i64 (j' : Int) ∧ j' ≤ hh.f2.length ∧ (hh.f2.drop j').foldlM (markStep a0 a2 hh) m' = some m2 ∧ IMap.Own Try.prog 3 decE W' b cnt' m' ∧ cnt' + (hh.f2.length - j') ≤ cnt + hh.f2.length ∧ Below w.heap.size w W' ∧
                    W'.heap[gH]? = some (.cells #[.int .i64 hh.f0, .float .f64 hh.f1, .slice (some ae) hh.f2.length c2] 54 (0, 0))) :=
                fun W' m3 cnt3 f1 f2 f3 f4 f5 => ⟨j + 1, cnt3, m3, by simp, by omega, f1, f2, by omega, f4, f5⟩
              have hmeas : hh.f2.length - (intOf (Value.int .i64 ((j : Int) + 1))).toNat < hh.f2.length - (intOf (Value.int .i64 (j : Int))).toNat := by simp [intOf]; omega
              have Hfin := Hid.mk_ fin
              have Hmeas := Hid.mk_ hmeas
              clear fin hmeas
              have hbN : b < wr.heap.size := howj.lt
              have hBb : w.heap.size ≤ b := by rw [Hb.out]; exact hb1.size
              have hbg : b < gH := by rw [HgH.out]; exact hown.lt
              have hgH : gH < wr.heap.size := (Array.getElem?_eq_some_iff.1 hbox).1
              unfold markStep at hm3
              split at hm3
              · rename_i hsk
                obtain rfl := Option.some.inj hm3
                by_cases hk1 : nn.f1 = 1
                · have hk2 : nn.f0 = a0 := hsk.resolve_left (fun h => h hk1)
                  go_wp2
                  first
                  | exact ⟨Hfin.out _ _ _ hfj (howj.alloc _) (by omega) (hBj.alloc hBj.size _) ((Below.heap_alloc _ _ _ hgH).trans hbox), Hmeas.out⟩
                  | exact ⟨⟨_, _, _, _, _, Hfin.out _ _ _ hfj (howj.alloc _) (by omega) (hBj.alloc hBj.size _) ((Below.heap_alloc _ _ _ hgH).trans hbox), rfl, rfl, rfl, rfl, rfl⟩, Hmeas.out⟩
                · go_wp2
                  first
                  | exact ⟨Hfin.out _ _ _ hfj (howj.alloc _) (by omega) (hBj.alloc hBj.size _) ((Below.heap_alloc _ _ _ hgH).trans hbox), Hmeas.out⟩
                  | exact ⟨⟨_, _, _, _, _, Hfin.out _ _ _ hfj (howj.alloc _) (by omega) (hBj.alloc hBj.size _) ((Below.heap_alloc _ _ _ hgH).trans hbox), rfl, rfl, rfl, rfl, rfl⟩, Hmeas.out⟩
              · rename_i hns
                have hk1 : nn.f1 = 1 := Classical.byContradiction fun h => hns (.inl h)
                have hk2 : ¬ nn.f0 = a0 := fun h => hns (.inr h)
                split at hm3
                case isFalse => cases hm3
                rename_i hwf
                obtain ⟨d, hd, hm3⟩ := Option.bind_eq_some_iff.1 hm3
                -- BEGIN WALKS
                cases hget : IMap.get m' nn.f0 with
                | none =>
                  rw [hget, Option.getD_none] at hm3
                  go_wp2_with (at_lookup; refine IMap.wpList_get_ok _ (enc := encE) (dec := decE) encE_dec z58 (decE_enc _) rfl (.tmp 56) (.tmp 58) 52 3 58 rfl Try.underlying3 Try.underlying52 rfl b cnt' m' rfl (howj.alloc _) nn.f0 hwf rfl ?_; rw [hget]; simp only [Option.getD_none, Option.isSome_none, Option.getD_some, Option.isSome_some, encE, z58])
                  obtain ⟨kI, hI⟩ := inf_is
                  go_region_with_o (go_at_call 40; refine (math_Inf.calls kI 1 _ _ hI).mono ?_; rintro e w' ⟨rfl, ⟨q3, rfl⟩⟩)
                  all_goals (
                    have hxb : (((wr.alloc (.cells #[.int .i64 nn.f0, .int .i64 1, .float .f64 nn.f2, .float .f64 nn.f3, .int .i64 nn.f4] 56)).alloc (.cells #[.int .i64 0, .int .i64 0, .float .f64 0, .int .i64 0, .float .f64 0, .int .i64 0] 58)).drewN (1 + q3)).heap[wr.heap.size + 1]? = some (.cells #[.int .i64 0, .int .i64 0, .float .f64 0, .int .i64 0, .float .f64 0, .int .i64 0] 58 (0, 0)) := by
                      have := blk_drewN (blk_new (wr.alloc (.cells #[.int .i64 nn.f0, .int .i64 1, .float .f64 nn.f2, .float .f64 nn.f3, .int .i64 nn.f4] 56)) (.cells #[.int .i64 0, .int .i64 0, .float .f64 0, .int .i64 0, .float .f64 0, .int .i64 0] 58)) (1 + q3)
                      rwa [World.size_alloc] at this
                    obtain ⟨hX, s2⟩ := six_set hxb (.int .i64 nn.f0) (.int .i64 1) (.float .f64 9218868437227405312) (.int .i64 0) (.float .f64 0) (.int .i64 0)
                    have hNX := (s2.block wr.heap.size (by omega)).trans (blk_drewN (blk_alloc (blk_new wr (.cells #[.int .i64 nn.f0, .int .i64 1, .float .f64 nn.f2, .float .f64 nn.f3, .int .i64 nn.f4] 56)) (.cells #[.int .i64 0, .int .i64 0, .float .f64 0, .int .i64 0, .float .f64 0, .int .i64 0] 58)) (1 + q3))
                    have hHX := (s2.block gH (by omega)).trans (blk_drewN (blk_alloc (blk_alloc hbox (.cells #[.int .i64 nn.f0, .int .i64 1, .float .f64 nn.f2, .float .f64 nn.f3, .int .i64 nn.f4] 56)) (.cells #[.int .i64 0, .int .i64 0, .float .f64 0, .int .i64 0, .float .f64 0, .int .i64 0] 58)) (1 + q3))
                    have hownX := ((howj.alloc (.cells #[.int .i64 nn.f0, .int .i64 1, .float .f64 nn.f2, .float .f64 nn.f3, .int .i64 nn.f4] 56)).alloc (.cells #[.int .i64 0, .int .i64 0, .float .f64 0, .int .i64 0, .float .f64 0, .int .i64 0] 58)).drewN (1 + q3) |>.move (s2.block b (by omega))
                    have hBX : Below w.heap.size w _ := (pw_below_drewN ((hBj.alloc hBj.size (.cells #[.int .i64 nn.f0, .int .i64 1, .float .f64 nn.f2, .float .f64 nn.f3, .int .i64 nn.f4] 56)).alloc (by rw [World.size_alloc]; have := hBj.size; omega) (.cells #[.int .i64 0, .int .i64 0, .float .f64 0, .int .i64 0, .float .f64 0, .int .i64 0] 58)) (1 + q3)).trans (s2.mono (by have := hBj.size; omega))
                    obtain ⟨gX, hgX0⟩ : ∃ g, g = wr.heap.size + 1 := ⟨_, rfl⟩
                    have hgX1 : wr.heap.size < gX := by omega
                    clear hxb s2
                    generalize ((((((((wr.alloc (.cells #[.int .i64 nn.f0, .int .i64 1, .float .f64 nn.f2, .float .f64 nn.f3, .int .i64 nn.f4] 56)).alloc (.cells #[.int .i64 0, .int .i64 0, .float .f64 0, .int .i64 0, .float .f64 0, .int .i64 0] 58)).drewN (1 + q3)).setCell ⟨wr.heap.size + 1, 0, none⟩ (.int .i64 nn.f0)).setCell ⟨wr.heap.size + 1, 1, none⟩ (.int .i64 1)).setCell ⟨wr.heap.size + 1, 2, none⟩ (.float .f64 9218868437227405312)).setCell ⟨wr.heap.size + 1, 3, none⟩ (.int .i64 0)).setCell ⟨wr.heap.size + 1, 4, none⟩ (.float .f64 0)).setCell ⟨wr.heap.size + 1, 5, none⟩ (.int .i64 0) = Wx at hX hNX hHX hownX hBX ⊢
                    rw [← hgX0] at hX ⊢
                    have hgXe := Hid.mk_ hgX0
                    clear hgX0
                    have xc0 := (blk_cell hX 0).trans rfl
                    have xf0 := blk_frozen hX 0
                    have xc1 := (blk_cell hX 1).trans rfl
                    have xf1 := blk_frozen hX 1
                    have xc2 := (blk_cell hX 2).trans rfl
                    have xf2 := blk_frozen hX 2
                    have xc3 := (blk_cell hX 3).trans rfl
                    have xf3 := blk_frozen hX 3
                    have xc4 := (blk_cell hX 4).trans rfl
                    have xf4 := blk_frozen hX 4
                    have xc5 := (blk_cell hX 5).trans rfl
                    have xf5 := blk_frozen hX 5
                    have nc0 := (blk_cell hNX 0).trans rfl
                    have nc1 := (blk_cell hNX 1).trans rfl
                    have nc2 := (blk_cell hNX 2).trans rfl
                    have nc3 := (blk_cell hNX 3).trans rfl
                    have nc4 := (blk_cell hNX 4).trans rfl
                    have hc0 := (blk_cell hHX 0).trans rfl
                    have hc1 := (blk_cell hHX 1).trans rfl
                    have hc2 := (blk_cell hHX 2).trans rfl
                    have hsX := hBX.size
                    have hwX : w.heap.size ≤ gX := by have := hBj.size; omega
                    have HX := Hid.mk_ hX
                    clear hX
                    by_cases hlt2 : fLt d 9218868437227405312 = true
                    · rw [if_pos hlt2] at hm3
                      obtain rfl := Option.some.inj hm3
                      go_wp2_with (go_at_call 41; refine (metric_Add.calls 16 hh.f1 nn.f2 a2 d _ hd).mono ?_; rintro e w' ⟨rfl, ⟨q4, rfl⟩⟩)
                      go_region_with_o (fail)
                      all_goals (
                        go_wp2_with (at_mapUpdate; refine IMap.wpList_put _ (enc := encE) (dec := decE) decE_enc rfl (.tmp 83) (.tmp 85) (.tmp 86) 52 3 58 rfl Try.underlying3 Try.underlying52 b cnt' m' rfl (by repeat (first | exact hownX | (refine IMap.Own.setCell ?_ (show b ≠ gX by omega) _) | (refine IMap.Own.drewN ?_ _) | (refine IMap.Own.drew ?_))) (by unfold maxLen; omega) nn.f0 hwf rfl (⟨nn.f0, 1, d, hh.f0, 0, 0⟩) rfl ?_; intro w5 hown5 hgr5)
                        refine ⟨?_, ?_⟩
                        · first
                          | exact Hfin.out _ _ _ hfj hown5 (by omega) (Below.grown (by repeat (first | exact hBX | (refine Below.setCell ?_ (p := ⟨gX, _, none⟩) (show w.heap.size ≤ gX by omega) _) | (apply pw_below_drewN) | (apply below_drew1))) hgr5 (by first | exact hsX | (simp; exact hsX) | (simp; omega)) (fun k e => by cases e; exact hBb)) (blk_grown (by repeat (first | exact hHX | (refine blk_far ?_ (show gH ≠ gX by omega) _) | (refine blk_drewN ?_ _) | (refine blk_drew ?_))) hgr5 (by intro e; cases e; exact absurd hbg (Nat.lt_irrefl _)))
                          | exact ⟨_, _, _, _, _, Hfin.out _ _ _ hfj hown5 (by omega) (Below.grown (by repeat (first | exact hBX | (refine Below.setCell ?_ (p := ⟨gX, _, none⟩) (show w.heap.size ≤ gX by omega) _) | (apply pw_below_drewN) | (apply below_drew1))) hgr5 (by first | exact hsX | (simp; exact hsX) | (simp; omega)) (fun k e => by cases e; exact hBb)) (blk_grown (by repeat (first | exact hHX | (refine blk_far ?_ (show gH ≠ gX by omega) _) | (refine blk_drewN ?_ _) | (refine blk_drew ?_))) hgr5 (by intro e; cases e; exact absurd hbg (Nat.lt_irrefl _))), rfl, rfl, rfl, rfl, rfl⟩
                        · exact Hmeas.out
                      )
                    · rw [if_neg hlt2] at hm3
                      obtain rfl := Option.some.inj hm3
                      replace hlt2 := Bool.eq_false_iff.mpr hlt2
                      go_wp2_with (first | (go_at_call 41; refine (metric_Add.calls 16 hh.f1 nn.f2 a2 d _ hd).mono ?_; rintro e w' ⟨rfl, ⟨q4, rfl⟩⟩) | (at_mapUpdate; refine IMap.wpList_put _ (enc := encE) (dec := decE) decE_enc rfl (.tmp 83) (.tmp 85) (.tmp 86) 52 3 58 rfl Try.underlying3 Try.underlying52 b cnt' m' rfl (by repeat (first | exact hownX | (refine IMap.Own.setCell ?_ (show b ≠ gX by omega) _) | (refine IMap.Own.drewN ?_ _) | (refine IMap.Own.drew ?_))) (by unfold maxLen; omega) nn.f0 hwf rfl (⟨nn.f0, 1, 9218868437227405312, 0, 0, 0⟩) rfl ?_; intro w5 hown5 hgr5))
                      refine ⟨?_, ?_⟩
                      · first
                        | exact Hfin.out _ _ _ hfj hown5 (by omega) (Below.grown (by repeat (first | exact hBX | (refine Below.setCell ?_ (p := ⟨gX, _, none⟩) (show w.heap.size ≤ gX by omega) _) | (apply pw_below_drewN) | (apply below_drew1))) hgr5 (by first | exact hsX | (simp; exact hsX) | (simp; omega)) (fun k e => by cases e; exact hBb)) (blk_grown (by repeat (first | exact hHX | (refine blk_far ?_ (show gH ≠ gX by omega) _) | (refine blk_drewN ?_ _) | (refine blk_drew ?_))) hgr5 (by intro e; cases e; exact absurd hbg (Nat.lt_irrefl _)))
                        | exact ⟨_, _, _, _, _, Hfin.out _ _ _ hfj hown5 (by omega) (Below.grown (by repeat (first | exact hBX | (refine Below.setCell ?_ (p := ⟨gX, _, none⟩) (show w.heap.size ≤ gX by omega) _) | (apply pw_below_drewN) | (apply below_drew1))) hgr5 (by first | exact hsX | (simp; exact hsX) | (simp; omega)) (fun k e => by cases e; exact hBb)) (blk_grown (by repeat (first | exact hHX | (refine blk_far ?_ (show gH ≠ gX by omega) _) | (refine blk_drewN ?_ _) | (refine blk_drew ?_))) hgr5 (by intro e; cases e; exact absurd hbg (Nat.lt_irrefl _))), rfl, rfl, rfl, rfl, rfl⟩
                      · exact Hmeas.out)
                | some y =>
                  rw [hget, Option.getD_some] at hm3
                  go_wp2_with (at_lookup; refine IMap.wpList_get_ok _ (enc := encE) (dec := decE) encE_dec z58 (decE_enc _) rfl (.tmp 56) (.tmp 58) 52 3 58 rfl Try.underlying3 Try.underlying52 rfl b cnt' m' rfl (howj.alloc _) nn.f0 hwf rfl ?_; rw [hget]; simp only [Option.getD_none, Option.isSome_none, Option.getD_some, Option.isSome_some, encE, z58])
                  have hX := blk_new (wr.alloc (.cells #[.int .i64 nn.f0, .int .i64 1, .float .f64 nn.f2, .float .f64 nn.f3, .int .i64 nn.f4] 56)) (.cells #[.int .i64 y.f0, .int .i64 y.f1, .float .f64 y.f2, .int .i64 y.f3, .float .f64 y.f4, .int .i64 y.f5] 58)
                  rw [World.size_alloc] at hX
                  have hNX := blk_alloc (blk_new wr (.cells #[.int .i64 nn.f0, .int .i64 1, .float .f64 nn.f2, .float .f64 nn.f3, .int .i64 nn.f4] 56)) (.cells #[.int .i64 y.f0, .int .i64 y.f1, .float .f64 y.f2, .int .i64 y.f3, .float .f64 y.f4, .int .i64 y.f5] 58)
                  have hHX := blk_alloc (blk_alloc hbox (.cells #[.int .i64 nn.f0, .int .i64 1, .float .f64 nn.f2, .float .f64 nn.f3, .int .i64 nn.f4] 56)) (.cells #[.int .i64 y.f0, .int .i64 y.f1, .float .f64 y.f2, .int .i64 y.f3, .float .f64 y.f4, .int .i64 y.f5] 58)
                  have hownX := (howj.alloc (.cells #[.int .i64 nn.f0, .int .i64 1, .float .f64 nn.f2, .float .f64 nn.f3, .int .i64 nn.f4] 56)).alloc (.cells #[.int .i64 y.f0, .int .i64 y.f1, .float .f64 y.f2, .int .i64 y.f3, .float .f64 y.f4, .int .i64 y.f5] 58)
                  have hBX : Below w.heap.size w _ := (hBj.alloc hBj.size (.cells #[.int .i64 nn.f0, .int .i64 1, .float .f64 nn.f2, .float .f64 nn.f3, .int .i64 nn.f4] 56)).alloc (by rw [World.size_alloc]; have := hBj.size; omega) (.cells #[.int .i64 y.f0, .int .i64 y.f1, .float .f64 y.f2, .int .i64 y.f3, .float .f64 y.f4, .int .i64 y.f5] 58)
                  obtain ⟨gX, hgX0⟩ : ∃ g, g = wr.heap.size + 1 := ⟨_, rfl⟩
                  have hgX1 : wr.heap.size < gX := by omega
                  generalize ((wr.alloc (.cells #[.int .i64 nn.f0, .int .i64 1, .float .f64 nn.f2, .float .f64 nn.f3, .int .i64 nn.f4] 56)).alloc (.cells #[.int .i64 y.f0, .int .i64 y.f1, .float .f64 y.f2, .int .i64 y.f3, .float .f64 y.f4, .int .i64 y.f5] 58)) = Wx at hX hNX hHX hownX hBX ⊢
                  rw [← hgX0] at hX ⊢
                  have hgXe := Hid.mk_ hgX0
                  clear hgX0
                  have xc0 := (blk_cell hX 0).trans rfl
                  have xf0 := blk_frozen hX 0
                  have xc1 := (blk_cell hX 1).trans rfl
                  have xf1 := blk_frozen hX 1
                  have xc2 := (blk_cell hX 2).trans rfl
                  have xf2 := blk_frozen hX 2
                  have xc3 := (blk_cell hX 3).trans rfl
                  have xf3 := blk_frozen hX 3
                  have xc4 := (blk_cell hX 4).trans rfl
                  have xf4 := blk_frozen hX 4
                  have xc5 := (blk_cell hX 5).trans rfl
                  have xf5 := blk_frozen hX 5
                  have nc0 := (blk_cell hNX 0).trans rfl
                  have nc1 := (blk_cell hNX 1).trans rfl
                  have nc2 := (blk_cell hNX 2).trans rfl
                  have nc3 := (blk_cell hNX 3).trans rfl
                  have nc4 := (blk_cell hNX 4).trans rfl
                  have hc0 := (blk_cell hHX 0).trans rfl
                  have hc1 := (blk_cell hHX 1).trans rfl
                  have hc2 := (blk_cell hHX 2).trans rfl
                  have hsX := hBX.size
                  have hwX : w.heap.size ≤ gX := by have := hBj.size; omega
                  have HX := Hid.mk_ hX
                  clear hX
                  by_cases hlt2 : fLt d y.f2 = true
                  · rw [if_pos hlt2] at hm3
                    obtain rfl := Option.some.inj hm3
                    go_wp2_with (go_at_call 41; refine (metric_Add.calls 16 hh.f1 nn.f2 a2 d _ hd).mono ?_; rintro e w' ⟨rfl, ⟨q4, rfl⟩⟩)
                    go_region_with_o (fail)
                    all_goals (
                      go_wp2_with (at_mapUpdate; refine IMap.wpList_put _ (enc := encE) (dec := decE) decE_enc rfl (.tmp 83) (.tmp 85) (.tmp 86) 52 3 58 rfl Try.underlying3 Try.underlying52 b cnt' m' rfl (by repeat (first | exact hownX | (refine IMap.Own.setCell ?_ (show b ≠ gX by omega) _) | (refine IMap.Own.drewN ?_ _) | (refine IMap.Own.drew ?_))) (by unfold maxLen; omega) nn.f0 hwf rfl (⟨y.f0, y.f1, d, hh.f0, y.f4, y.f5⟩) rfl ?_; intro w5 hown5 hgr5)
                      refine ⟨?_, ?_⟩
                      · first
                        | exact Hfin.out _ _ _ hfj hown5 (by omega) (Below.grown (by repeat (first | exact hBX | (refine Below.setCell ?_ (p := ⟨gX, _, none⟩) (show w.heap.size ≤ gX by omega) _) | (apply pw_below_drewN) | (apply below_drew1))) hgr5 (by first | exact hsX | (simp; exact hsX) | (simp; omega)) (fun k e => by cases e; exact hBb)) (blk_grown (by repeat (first | exact hHX | (refine blk_far ?_ (show gH ≠ gX by omega) _) | (refine blk_drewN ?_ _) | (refine blk_drew ?_))) hgr5 (by intro e; cases e; exact absurd hbg (Nat.lt_irrefl _)))
                        | exact ⟨_, _, _, _, _, Hfin.out _ _ _ hfj hown5 (by omega) (Below.grown (by repeat (first | exact hBX | (refine Below.setCell ?_ (p := ⟨gX, _, none⟩) (show w.heap.size ≤ gX by omega) _) | (apply pw_below_drewN) | (apply below_drew1))) hgr5 (by first | exact hsX | (simp; exact hsX) | (simp; omega)) (fun k e => by cases e; exact hBb)) (blk_grown (by repeat (first | exact hHX | (refine blk_far ?_ (show gH ≠ gX by omega) _) | (refine blk_drewN ?_ _) | (refine blk_drew ?_))) hgr5 (by intro e; cases e; exact absurd hbg (Nat.lt_irrefl _))), rfl, rfl, rfl, rfl, rfl⟩
                      · exact Hmeas.out
                    )
                  · rw [if_neg hlt2] at hm3
                    obtain rfl := Option.some.inj hm3
                    replace hlt2 := Bool.eq_false_iff.mpr hlt2
                    go_wp2_with (first | (go_at_call 41; refine (metric_Add.calls 16 hh.f1 nn.f2 a2 d _ hd).mono ?_; rintro e w' ⟨rfl, ⟨q4, rfl⟩⟩) | (at_mapUpdate; refine IMap.wpList_put _ (enc := encE) (dec := decE) decE_enc rfl (.tmp 83) (.tmp 85) (.tmp 86) 52 3 58 rfl Try.underlying3 Try.underlying52 b cnt' m' rfl (by repeat (first | exact hownX | (refine IMap.Own.setCell ?_ (show b ≠ gX by omega) _) | (refine IMap.Own.drewN ?_ _) | (refine IMap.Own.drew ?_))) (by unfold maxLen; omega) nn.f0 hwf rfl (y) rfl ?_; intro w5 hown5 hgr5))
                    refine ⟨?_, ?_⟩
                    · first
                      | exact Hfin.out _ _ _ hfj hown5 (by omega) (Below.grown (by repeat (first | exact hBX | (refine Below.setCell ?_ (p := ⟨gX, _, none⟩) (show w.heap.size ≤ gX by omega) _) | (apply pw_below_drewN) | (apply below_drew1))) hgr5 (by first | exact hsX | (simp; exact hsX) | (simp; omega)) (fun k e => by cases e; exact hBb)) (blk_grown (by repeat (first | exact hHX | (refine blk_far ?_ (show gH ≠ gX by omega) _) | (refine blk_drewN ?_ _) | (refine blk_drew ?_))) hgr5 (by intro e; cases e; exact absurd hbg (Nat.lt_irrefl _)))
                      | exact ⟨_, _, _, _, _, Hfin.out _ _ _ hfj hown5 (by omega) (Below.grown (by repeat (first | exact hBX | (refine Below.setCell ?_ (p := ⟨gX, _, none⟩) (show w.heap.size ≤ gX by omega) _) | (apply pw_below_drewN) | (apply below_drew1))) hgr5 (by first | exact hsX | (simp; exact hsX) | (simp; omega)) (fun k e => by cases e; exact hBb)) (blk_grown (by repeat (first | exact hHX | (refine blk_far ?_ (show gH ≠ gX by omega) _) | (refine blk_drewN ?_ _) | (refine blk_drew ?_))) hgr5 (by intro e; cases e; exact absurd hbg (Nat.lt_irrefl _))), rfl, rfl, rfl, rfl, rfl⟩
                    · exact Hmeas.out
                -- END WALKS
            · have hjl : j = hh.f2.length := by omega
              subst hjl
              rw [List.drop_length, List.foldlM_nil] at hfj
              obtain rfl := Option.some.inj hfj
              have orel : ∃ (i' cnt : Nat) (m : List (Int × S58)), Value.int .i64 ((i : Int) + 1) = .int .i64 (i' : Int) ∧ i' ≤ l1.length ∧ (l1.drop i').foldlM (markHeard a0 a2) m = some mf ∧ IMap.Own Try.prog 3 decE wr b cnt m ∧ cnt + ((l1.drop i').map fun h => h.f2.length).sum ≤ 1099511627776 ∧ Below w.heap.size w wr :=
                ⟨i + 1, cnt', m', by simp, by omega, hfold, howj, by omega, hBj⟩
              have omeas : l1.length - (intOf (Value.int .i64 ((i : Int) + 1))).toNat < l1.length - (intOf (Value.int .i64 (i : Int))).toNat := by simp [intOf]; omega
              have Orel := Hid.mk_ orel
              have Omeas := Hid.mk_ omeas
              clear orel omeas
              go_wp2
              refine ⟨?_, Omeas.out⟩
              first
              | exact Orel.out
              | exact ⟨_, _, _, _, _, _, Orel.out, rfl, rfl, rfl, rfl, rfl, rfl⟩
        · have hil : i = l1.length := by omega
          subst hil
          rw [List.drop_length, List.foldlM_nil] at hfold
          obtain rfl := Option.some.inj hfold
          clear hmf
          have hml : m.length ≤ 1099511627776 := by
            have := hown.len
            omega
          have cK : ∀ W, Calls Try.prog 43 #[.map (some b)] W fun e w' => e = .returned (.func (.func 76) #[] #[.pointer (some ⟨W.heap.size, 0, none⟩)]) ∧ w' = W.alloc (.cells #[.map (some b)] 52) := fun W => (callsIn_wide (n := 5)).1 (AnyZI.keys_in Try.keysA Fence.wide 5 trivial rfl (some b) W)
          have hBb : w.heap.size ≤ b := by rw [Hb.out]; exact hb1.size
          go_wp2_with (first
            | (go_at_call 43; refine (cK _).mono ?_; rintro e' w5 ⟨rfl, rfl⟩)
            | (go_at_call 42; refine (sorted_keys b cnt m wr hown hml).mono ?_; rintro e' w5 ⟨v5, rfl, hrow5, hb5⟩; obtain ⟨A5, c5, rfl⟩ := own_slice hrow5))
          have hown5 := hown.below hb5
          have hB5 := hB.trans (hb5.mono hB.size)
          have hrise := hown.rising Try.underlying3
          obtain ⟨sW, hsW⟩ : ∃ s, s = wr.heap.size := ⟨_, rfl⟩
          rw [← hsW] at hrow5
          clear hsW hb5 hB hown
          have hw0 : w.heap.size ≤ w5.heap.size := hB5.size
          clear hBb
          go_loopw [93, 18] (fun vi vo wq => ∃ i : Nat, vi = .int .i64 (i : Int) ∧ i ≤ m.length ∧ wq.ownsRow w.heap.size 58 6 vo i (((m.take i).map (·.2)).flatMap encEl) ∧ IMap.Own Try.prog 3 decE wq b cnt m ∧ wq.ownsRow sW 3 1 (.slice A5 m.length c5) m.length (nums .i64 (m.map (·.1))) ∧ Below w.heap.size w wq)
            (fun vi _ _ => m.length - (intOf vi).toNat)
          case atStart => exact ⟨0, rfl, Nat.zero_le _, World.ownsRow_nil _ _ _ _, hown5, hrow5, hB5⟩
          case round =>
            obtain ⟨i, rfl, hi, hout, hmap, hkeys, hBq⟩ := hrel
            rcases Nat.lt_or_ge i m.length with hlt | hge
            · have hA : ∃ g, A5 = some ⟨g, 0, none⟩ := by
                rcases hkeys.2 with ⟨h1, h2⟩ | ⟨g, cap, cur, e1, _⟩
                · omega
                · injection e1 with e1 _ _
                  exact ⟨g, e1⟩
              obtain ⟨g, rfl⟩ := hA
              have hkeys' : wr.ownsRow sW 3 1 (.slice (some ⟨g, 0, none⟩) m.length c5) m.length (nums .i64 (m.map (·.1))) := hkeys
              obtain ⟨kc, kf⟩ := own_at hkeys' i (by omega) (by omega)
              have hrd : rd (m.map (·.1)) i = (m[i]).1 := by simp [rd, List.getD_eq_getElem?_getD, hlt]
              rw [hrd] at kc
              simp only [Int.toNat_natCast] at kc kf
              have hget := get_at hrise i hlt
              have hwfk := hwfm.out _ (List.getElem_mem hlt)
              have htk : (((m.take (i + 1)).map (·.2)).flatMap encEl) = (((m.take i).map (·.2)).flatMap encEl) ++ encEl (m[i]).2 := by
                rw [List.take_add_one, List.getElem?_eq_getElem hlt]
                simp only [Option.toList_some, List.map_append, List.flatMap_append, List.map_cons, List.map_nil, List.flatMap_cons, List.flatMap_nil, List.append_nil]
              clear hrd
              generalize m[i] = p at *
              obtain ⟨pk, px⟩ := p
              simp only at kc hget hwfk htk
              have Hkeys := Hid.mk_ hkeys'
              clear hkeys hkeys'
              have hjp : (0 : Int) ≤ i := by omega
              have hjq : (i : Int) < m.length := by omega
              obtain ⟨ti, e1, e2, e3, e4⟩ := einfo
              have hw1 : w.heap.size ≤ wr.heap.size := hBq.size
              have hT2 := blk_new wr (.cells #[.int .i64 px.f0, .int .i64 px.f1, .float .f64 px.f2, .int .i64 px.f3, .float .f64 px.f4, .int .i64 px.f5] 58)
              have hnews : ∀ j u, (encEl px)[j]? = some u → (wr.alloc (.cells #[.int .i64 px.f0, .int .i64 px.f1, .float .f64 px.f2, .int .i64 px.f3, .float .f64 px.f4, .int .i64 px.f5] 58)).cell? ((⟨wr.heap.size, 0, none⟩ : Addr).add j) = some u := fun j u hj => by
                have hadd : (⟨wr.heap.size, 0, none⟩ : Addr).add j = ⟨wr.heap.size, j, none⟩ := by
                  unfold Addr.add
                  split
                  · rename_i h
                    rw [h]
                  · simp
                rw [hadd, blk_cell hT2 j]
                simpa [encEl] using hj
              have Hnews := Hid.mk_ hnews
              have HT2 := Hid.mk_ hT2
              have Hget := Hid.mk_ hget
              have Htk := Hid.mk_ htk
              clear hnews hT2 hget htk
              go_wp2_with (first
                | (at_lookup; refine IMap.wpList_get _ (enc := encE) (dec := decE) encE_dec z58 (decE_enc _) rfl (.tmp 98) (.tmp 99) 52 3 58 rfl Try.underlying3 Try.underlying52 rfl b cnt m rfl hmap pk hwfk rfl ?_; rw [Hget.out]; simp only [Option.getD_some, encE])
                | (at_builtin; refine wpList_append_own _ rfl (.tmp 97) (.tmp 101) 24 rfl w.heap.size 58 ti _ 6 48 Try.underlying24 e1 e2 e3 e4 rfl (by decide) u18 i _ rfl (hout.alloc _) ⟨wr.heap.size, 0, none⟩ 1 1 (encEl px) rfl rfl Hnews.out (by simp [encEl, Value.oneCell']) (by simp only [maxLen]; omega) (by omega) (by simp; omega) ?_; intro v6 w6 hown6 hgr6 hnil6; obtain ⟨g6, c6, rfl⟩ := ownsRow_succ hown6))
              obtain ⟨es, cl, hmb⟩ := Own_heap hmap
              have hne6 := own_ne_map (hout.alloc (.cells #[.int .i64 px.f0, .int .i64 px.f1, .float .f64 px.f2, .int .i64 px.f3, .float .f64 px.f4, .int .i64 px.f5] 58)) (blk_alloc hmb _)
              have frel : ∃ i' : Nat, Value.int .i64 ((i : Int) + 1) = .int .i64 (i' : Int) ∧ i' ≤ m.length ∧ w6.ownsRow w.heap.size 58 6 (.slice (some ⟨g6, 0, none⟩) (i + 1) c6) i' (((m.take i').map (·.2)).flatMap encEl) ∧ IMap.Own Try.prog 3 decE w6 b cnt m ∧ w6.ownsRow sW 3 1 (.slice (some ⟨g, 0, none⟩) m.length c5) m.length (nums .i64 (m.map (·.1))) ∧ Below w.heap.size w w6 :=
                ⟨i + 1, by simp, by omega, by rw [Htk.out]; exact hown6, (hmap.alloc _).kept hgr6 hne6, own_other (Hkeys.out.alloc _) hgr6 (own_type_ne (Hkeys.out.alloc (.cells #[.int .i64 px.f0, .int .i64 px.f1, .float .f64 px.f2, .int .i64 px.f3, .float .f64 px.f4, .int .i64 px.f5] 58)) (hout.alloc (.cells #[.int .i64 px.f0, .int .i64 px.f1, .float .f64 px.f2, .int .i64 px.f3, .float .f64 px.f4, .int .i64 px.f5] 58)) (by decide)),
                  Below.grown (hBq.alloc hw1 _) hgr6 (by simp; omega) (fun k e => own_base hout k e)⟩
              have fmeas : m.length - (intOf (Value.int .i64 ((i : Int) + 1))).toNat < m.length - (intOf (Value.int .i64 (i : Int))).toNat := by simp [intOf]; omega
              go_roundw
              case rel => exact frel
              case measure => exact fmeas
            · have him : i = m.length := by omega
              subst him
              rw [List.take_length] at hout
              go_wp2
              go_ret2
              have hreps := (Go.Proofs.YtjkhckbfkinheaaW.SortB.reps_flat (R := k58.M wr w.heap.size (fun k => True ∧ some k ≠ u18.ownBlock)) id encEl 6 (fun _ => rfl) (fun x cs => ⟨fun h => k58_openM h, fun h => by subst h; exact k58_mkM _ _ _ x⟩) (m.map (·.2)) _).2 rfl
              rw [List.map_id] at hreps
              exact ⟨_, rfl, ⟨fun _ _ => trivial, _, by rw [List.length_map]; exact hout, hreps⟩, hBq⟩
    · rw [if_pos h2] at h
      simp only [Option.some.injEq, Prod.mk.injEq] at h
      obtain ⟨rfl, rfl⟩ := h
      go_wp2_with (first
        | (go_at_call 17; refine (landdv_Check.calls kc a0 _ _ l1 0 _ hr1 hc1 he).mono ?_; rintro e' w1 ⟨rfl, hb1⟩)
        | (go_at_call 32; refine (metric_Limit.calls a2 e2 _ he2).mono ?_; rintro e' w2 ⟨rfl, ⟨q2, rfl⟩⟩))
      go_ret2
      exact ⟨_, rfl, Kd.R_nil _ _ _ _ _, ⟨hb1.os, hb1.tape, hb1.output, hb1.size, hb1.block⟩⟩
  · rw [if_pos h0] at h
    simp only [Option.some.injEq, Prod.mk.injEq] at h
    obtain ⟨rfl, rfl⟩ := h
    go_wp2_with (go_at_call 17; refine (landdv_Check.calls kc a0 _ _ l1 e _ hr1 hc1 he).mono ?_; rintro e' w1 ⟨rfl, hb1⟩)
    go_ret2
    exact ⟨_, rfl, Kd.R_nil _ _ _ _ _, hb1⟩
end Go.Proofs.Ytjkhckbfkinheaa.GAa
