/- ScopedvTells holds at every input: what is advertised of any home and any balls is what the document says; the input reads as it did. -/
import Derived.Test.YtjkhckbfkinheaaFlt
import Derived.WalkKit
import Derived.Deep.Slices
import Derived.Deep.Fields
import Derived.ChangeSame
import Derived.ChangeArms
import Derived.SizedLaws
import Derived.Test.YtjkhckbfkinheaaHMarksAa
import Derived.Test.YtjkhckbfkinheaaGAax13
import Derived.Test.YtjkhckbfkinheaaGAax0
import Derived.Test.YtjkhckbfkinheaaGAax2
import Derived.Test.YtjkhckbfkinheaaGAax10
import Derived.Test.YtjkhckbfkinheaaGAax17
import Derived.Test.YtjkhckbfkinheaaHSortNAa
import Derived.Test.YtjkhckbfkinheaaGAax22
import Derived.Test.YtjkhckbfkinheaaHBallsAa
import Derived.Test.YtjkhckbfkinheaaGAax40
import Derived.Test.YtjkhckbfkinheaaGAax41
import Derived.Test.YtjkhckbfkinheaaGAax42
import Derived.Test.YtjkhckbfkinheaaGAax43
import Derived.Test.YtjkhckbfkinheaaGAax44
import Derived.Test.YtjkhckbfkinheaaGAax45
import Derived.Test.YtjkhckbfkinheaaGAax46
import Derived.Test.YtjkhckbfkinheaaRows
import Derived.ProofKit
import Derived.OpenShut
import Derived.ShutString
import Derived.ChangeOld
import Derived.Below
set_option linter.unusedVariables false
namespace Go.Proofs.YtjkhckbfkinheaaW.PrintWords
open Go Go.ChangeShapes Go.WideShapes Go.RowKit Go.Deep
section
variable {H : Type} {enc : TypeId × Value → H} {P : Program} {w : World} {base : Nat} {spare : Nat → Bool} {held : Bool}
theorem trod_float {k : FloatKind} {t : TypeId} {fuel : Nat} {cs : List Value} {x : DataW H × List MemPlace} (ht : P.underlying t = some (.float k)) (h : DataW.trod enc P w base spare held fuel t cs = some x) : ∃ n, cs = [.float k n] ∧ x = (.lit (.float k n), []) ∧ (Lit.float k n).wf = true := by
  cases fuel with
  | zero => simp [DataW.trod] at h
  | succ n =>
    unfold DataW.trod at h
    rw [ht] at h
    split at h <;> simp_all
theorem float_small {n : Nat} (h : (Lit.float .f64 n).wf = true) : n < 18446744073709551616 := by
  simpa [Lit.wf] using h
/-- A slice whose elements can be told: a row that is read; its weight. -/
theorem open_rows {α : Type} (K : α → List Value → Prop) (Q : α → Prop) {t e : TypeId} {size B : Nat} (ht : P.underlying t = some (.slice e)) (hC : P.cellsOf e = size) (hB : P.bytesOf e = B)
    (hel : ∀ n cs x, cs.length = size → DataW.trod enc P w 0 (fun _ => true) true n e cs = some x → ∃ p : α, K p cs ∧ Q p) {A : Option Addr} {len cap : Nat} {d : DataW H} {ps : List MemPlace} {ts : List TypeId} {ds : List (DataW H)} {j : Nat}
    (hsz : (DataW.weightsEach P ts ds).all (· ≤ reachBytes) = true) (htj : ts[j]? = some t) (hdj : ds[j]? = some d)
    (h : DataW.Trod enc P w 0 (fun _ => true) true t (.slice A len cap) d ps) : ∃ xs : List α, ReadsRow K size w A len xs ∧ len ≤ cap ∧ (∀ x ∈ xs, Q x) ∧ len * B ≤ 140737488351232 := by
  obtain ⟨fuel, hf⟩ := h
  rcases open_slice ht hf with ⟨hcs, hx⟩ | ⟨a, l, c, m, n, D, Pl, hcs, hb, hl, hm, hmm, hx, hi⟩
  · simp [Value.cells] at hcs
    obtain ⟨rfl, rfl, rfl⟩ := hcs
    exact ⟨[], ⟨rfl, by omega, fun h => absurd h (by omega)⟩, Nat.le_refl _, by simp, by simp⟩
  · simp [Value.cells] at hcs
    obtain ⟨rfl, rfl, rfl⟩ := hcs
    simp only [if_true] at hmm
    have hch : ∀ i : Fin len, ∃ p : α, Q p ∧ ∃ cs, cs.length = size ∧ K p cs ∧ ∀ q u, cs[q]? = some u → w.cell? (a.add (i.1 * size + q)) = some u := fun i => by
      obtain ⟨cs, hc, htr⟩ := hi i.1 (by have := i.2; omega)
      rw [hC] at hc
      obtain ⟨hbase, hcl, hat⟩ := World.cells?_some hc
      obtain ⟨p, hk, hq⟩ := hel _ _ _ hcl htr
      refine ⟨p, hq, cs, hcl, hk, fun q u hu => ?_⟩
      have hq2 : q < size := by
        have := (List.getElem?_eq_some_iff.1 hu).1
        omega
      have := hat q hq2
      rw [Go.Deep.add_add] at this
      rw [this, hu]
    obtain ⟨F, hF⟩ := Classical.axiomOfChoice hch
    have hmax : cap ≤ 9223372036854775807 := by simpa [maxLen] using hm
    refine ⟨(List.finRange len).map F, ⟨by simp, by omega, fun _ => ⟨a, rfl, fun i p hp => ?_⟩⟩, hl, ?_, ?_⟩
    · rw [List.getElem?_map, Option.map_eq_some_iff] at hp
      obtain ⟨q, hq, rfl⟩ := hp
      have hqi : q.1 = i := by
        have := (List.getElem?_eq_some_iff.1 hq)
        obtain ⟨h1, h2⟩ := this
        rw [← h2]
        simp
      obtain ⟨_, cs, h1, h2, h3⟩ := hF q
      rw [hqi] at h3
      exact ⟨cs, h1, h2, h3⟩
    · intro x hx
      obtain ⟨q, _, rfl⟩ := List.mem_map.1 hx
      exact (hF q).1
    · obtain ⟨hx1, _⟩ := Prod.mk.inj hx
      subst hx1
      have z := sized_slice hsz htj hdj ht
      rw [hB] at z
      simp at z
      have z2 : len * B ≤ reachBytes := Nat.le_trans (Nat.mul_le_mul_right _ (by omega)) z
      exact Nat.le_trans z2 (by decide)
end
end Go.Proofs.YtjkhckbfkinheaaW.PrintWords

set_option linter.unusedVariables false
namespace Go.Proofs.YtjkhckbfkinheaaW.PrintWords
open Go Ieee

theorem read_zero : FloatKind.f64.format.read 0 = .number false 0 FloatKind.f64.format.leastPlace := by decide
theorem signed_false (m u : Nat) : signed false m u = (m <<< u : Nat) := rfl
theorem signed_true (m u : Nat) : signed true m u = -(m <<< u : Nat) := rfl
theorem shl_pos {m u : Nat} (h : 0 < m) : 0 < m <<< u := by
  rw [Nat.shiftLeft_eq]
  exact Nat.mul_pos h (Nat.pow_pos (by decide))
theorem zero_shl (u : Nat) : 0 <<< u = 0 := by rw [Nat.shiftLeft_eq, Nat.zero_mul]

/-- What is greater than a number that is no less than nought: infinity, or a number above nought. -/
theorem above {m : Nat} {i : Int} {D : Datum} (h : Datum.order (.number false m i) D = some .lt) : D = .infinity false ∨ ∃ n j, D = .number false n j ∧ 0 < n := by
  match D, h with
  | .infinity false, h => exact .inl rfl
  | .infinity true, h => simp [Datum.order] at h
  | .number false n j, h =>
    refine .inr ⟨n, j, rfl, ?_⟩
    rcases Nat.eq_zero_or_pos n with hn | hn
    · subst hn
      simp only [Datum.order, signed_false, zero_shl, Option.some.injEq] at h
      have h1 := Int.compare_eq_lt.1 h
      have h2 : (0 : Int) ≤ ((m <<< (i - min i j).toNat : Nat) : Int) := Int.natCast_nonneg _
      exact absurd h1 (by simpa using h2)
    · exact hn
  | .number true n j, h =>
    simp only [Datum.order, signed_false, signed_true, Option.some.injEq] at h
    have h1 := Int.compare_eq_lt.1 h
    have h2 : (0 : Int) ≤ ((m <<< (i - min i j).toNat : Nat) : Int) := Int.natCast_nonneg _
    have h3 : (0 : Int) ≤ ((n <<< (j - min i j).toNat : Nat) : Int) := Int.natCast_nonneg _
    exact absurd (Int.lt_of_le_of_lt h2 h1) (by generalize ((n <<< (j - min i j).toNat : Nat) : Int) = q at *; omega)
theorem above_self {D : Datum} (h : D = .infinity false ∨ ∃ n j, D = .number false n j ∧ 0 < n) : Datum.order D D = some .eq := by
  rcases h with rfl | ⟨n, j, rfl, hn⟩
  · rfl
  · simp [Datum.order]
theorem lt_above {a d : Nat} {m : Nat} {i : Int} (ha : FloatKind.f64.format.read a = .number false m i) (h : fLt a d = true) : FloatKind.f64.format.read d = .infinity false ∨ ∃ n j, FloatKind.f64.format.read d = .number false n j ∧ 0 < n := by
  unfold fLt Format.order at h
  rw [ha] at h
  exact above (by simpa using h)
theorem above_eq {d : Nat} (h : FloatKind.f64.format.read d = .infinity false ∨ ∃ n j, FloatKind.f64.format.read d = .number false n j ∧ 0 < n) : fEq d d = true := by
  unfold fEq Format.order
  rw [above_self h]
  rfl
/-- A word whose sign bit is not set. -/
theorem above_sign {d : Nat} (hd : d < 18446744073709551616) (h : FloatKind.f64.format.read d = .infinity false ∨ ∃ n j, FloatKind.f64.format.read d = .number false n j ∧ 0 < n) : d < 9223372036854775808 := by
  have hs : (d / 9223372036854775808 % 2 == 1) = false := by
    unfold Format.read at h
    have hw : FloatKind.f64.format.signWeight = 9223372036854775808 := by decide
    rw [hw] at h
    simp only at h
    generalize (d / 9223372036854775808 % 2 == 1) = b at h
    cases b with
    | false => rfl
    | true =>
      exfalso
      split at h
      · rcases h with h | ⟨n, j, h, _⟩ <;> cases h
      · split at h
        · rcases h with h | ⟨n, j, h, _⟩ <;> cases h
        · split at h
          · rcases h with h | ⟨n, j, h, _⟩ <;> cases h
          · rcases h with h | ⟨n, j, h, _⟩ <;> cases h
  simp at hs
  omega
theorem pos_above {d : Nat} (h : fLt 0 d = true) : FloatKind.f64.format.read d = .infinity false ∨ ∃ n j, FloatKind.f64.format.read d = .number false n j ∧ 0 < n := lt_above read_zero h
theorem read_max : ∃ m i, FloatKind.f64.format.read 9218868437227405311 = .number false m i := ⟨9007199254740991, 971, by decide⟩
theorem inf_above {d : Nat} (h : fLt 9218868437227405311 d = true) : FloatKind.f64.format.read d = .infinity false ∨ ∃ n j, FloatKind.f64.format.read d = .number false n j ∧ 0 < n := by
  obtain ⟨m, i, hm⟩ := read_max
  exact lt_above hm h
/-- Below a number: no infinity. -/
theorem below_number {d b m : Nat} {i : Int} (hb : FloatKind.f64.format.read b = .number false m i) (h : fLt d b = true) : FloatKind.f64.format.read d ≠ .infinity false := by
  intro e
  unfold fLt Format.order at h
  rw [hb, e] at h
  simp [Datum.order] at h
theorem read_word_ok (neg : Bool) (rung : Nat) (h : rung ≤ FloatKind.f64.format.infRung) : (FloatKind.f64.format.read (FloatKind.f64.format.word neg rung)).isNaN = false := by
  have h1 : FloatKind.f64.format.signWeight = 9223372036854775808 := by decide
  have h2 : FloatKind.f64.format.infRung = 9218868437227405312 := by decide
  have hr : FloatKind.f64.format.word neg rung % FloatKind.f64.format.signWeight = rung := by
    unfold Format.word
    rw [h1]
    rw [h2] at h
    split <;> omega
  unfold Format.read
  simp only [hr]
  split
  · rfl
  · split
    · rfl
    · split
      · rfl
      · exfalso
        omega
theorem nearest_ok (neg : Bool) (mag : Nat) (place : Int) : (FloatKind.f64.format.read (FloatKind.f64.format.nearest neg mag place)).isNaN = false := by
  unfold Format.nearest
  split
  · exact read_word_ok _ _ (Nat.zero_le _)
  · exact read_word_ok _ _ (Nat.min_le_right _ _)
theorem read_four : ∃ m i, FloatKind.f64.format.read 4616189618054758400 = .number false m i := ⟨4503599627370496, -50, by decide⟩
/-- A number above nought, times 4: there is an answer, and it is no NaN. -/
theorem mul_four {d n : Nat} {j : Int} (h : FloatKind.f64.format.read d = .number false n j) : fMulOk d 4616189618054758400 = true ∧ fTruncOk (fMul d 4616189618054758400) = true := by
  obtain ⟨m, i, hm⟩ := read_four
  have hmul : FloatKind.f64.format.mul d 4616189618054758400 = some (FloatKind.f64.format.nearest false (n * m) (j + i)) := by
    unfold Format.mul
    rw [h, hm]
    rfl
  unfold fMulOk fMul fTruncOk
  rw [hmul]
  refine ⟨rfl, ?_⟩
  have := nearest_ok false (n * m) (j + i)
  simpa [FloatKind.decode] using this
end Go.Proofs.YtjkhckbfkinheaaW.PrintWords

set_option linter.unusedVariables false
set_option linter.unusedSimpArgs false
namespace Go.Proofs.Ytjkhckbfkinheaa.GAa
open Go Go.RowKit Go.Proofs.YtjkhckbfkinheaaW.PrintWords Go.Proofs.YtjkhckbfkinheaaW.PrintLast Go.Proofs.YtjkhckbfkinheaaW.PrintMore
open Go.Proofs.YtjkhckbfkinheaaW

/-- From some number of rounds on, f comes to r. -/
def Gv {α : Type} (f : Nat → Option α) (r : α) : Prop := ∃ K, ∀ k, K ≤ k → f k = some r
theorem Gv.bind {α β : Type} {f : Nat → Option α} {g : Nat → α → Option β} {a : α} {r : β} (h : Gv f a) (h2 : Gv (fun k => g k a) r) : Gv (fun k => (f k).bind (g k)) r := by
  obtain ⟨K, hK⟩ := h
  obtain ⟨L, hL⟩ := h2
  exact ⟨max K L, fun k hk => by show (f k).bind (g k) = some r; rw [hK k (by omega)]; exact hL k (by omega)⟩

def cid (a : Int) : Int := if 1 ≤ a ∧ a ≤ 2147483647 then 0 else 20
theorem cid_prog (k : Nat) (a : Int) : ident_CheckId.f (k + 1) a = some (cid a) := by
  unfold ident_CheckId.f ident_CheckId.j0 cid
  by_cases h1 : a < 1
  · simp [h1] <;> omega
  · by_cases h2 : a > 2147483647
    · simp [h1, h2] <;> omega
    · simp [h1, h2] <;> omega
theorem cid_ref (k : Nat) (a : Int) : beaconref02_CheckId.f (k + 1) a = some (cid a) := by
  unfold beaconref02_CheckId.f beaconref02_CheckId.j0 cid
  by_cases h1 : a < 1
  · simp [h1] <;> omega
  · by_cases h2 : a > 2147483647
    · simp [h1, h2] <;> omega
    · simp [h1, h2] <;> omega
def isFar (d : Nat) : Bool := fLt 9218868437227405311 d
/-- A multiple of a quarter. -/
def isQ (d : Nat) : Bool := fEq (fMul d 4616189618054758400) (fTrunc (fMul d 4616189618054758400))
/-- A distance that is none of nought: infinity, or between 0 and the greatest limit, in quarters. -/
def isD (d : Nat) : Bool := isFar d || (fLt 0 d && fLt d 4742290407621132288 && isQ d)
theorem isInf1 (d : Nat) : math_IsInf.f d 1 = some (isFar d) := by
  unfold math_IsInf.f isFar
  simp
theorem read_limit : ∃ m i, FloatKind.f64.format.read 4742290407621132288 = .number false m i := by
  refine ⟨4503599627370496, ?_, ?_⟩
  · exact (FloatKind.f64.format.leastPlace + (4742290407621132288 / 4503599627370496 - 1 : Nat))
  · decide
/-- Between nought and the limit: what is asked of it can be answered. -/
theorem mid_ok {d : Nat} (h0 : fLt 0 d = true) (h1 : fLt d 4742290407621132288 = true) : fMulOk d 4616189618054758400 = true ∧ fTruncOk (fMul d 4616189618054758400) = true := by
  obtain ⟨m, i, hm⟩ := read_limit
  rcases pos_above h0 with h | ⟨n, j, h, _⟩
  · exact absurd h (below_number hm h1)
  · exact mul_four h
theorem far06 (k : Nat) (d : Nat) : beaconref06_Far.f (k + 1) d = some (decide (d = 0) || isD d) := by
  unfold beaconref06_Far.f beaconref06_Far.j0
  rw [isInf1]
  simp only [Option.bind_some]
  by_cases hf : isFar d = true
  · simp [hf, isD]
  · have hf' : isFar d = false := by simpa using hf
    by_cases hz : d = 0
    · simp [hf', hz]
    · have hz' : ((d : Int) == 0) = false := by simp; omega
      by_cases h0 : fLt 0 d = true
      · by_cases h1 : fLt d 4742290407621132288 = true
        · obtain ⟨ha, hb⟩ := mid_ok h0 h1
          simp [hf', hz', hz, h0, h1, ha, hb, math_Trunc.f, isD, isQ]
        · simp [hf', hz', hz, h0, h1, isD]
      · simp [hf', hz', hz, h0, isD]

theorem wrap_id {i : Int} (h0 : -9223372036854775808 ≤ i) (h1 : i < 9223372036854775808) : wrap64 i = i := by
  unfold wrap64
  omega
theorem evf_eq {α : Type} {f : Nat → Option α} (hm : ∀ k, LeO (f k) (f (k + 1))) {K : Nat} {r : α} (h : f K = some r) : evf f = some r := by
  have up : ∀ j a, f a = f a → ∀ x, f a = some x → f (a + j) = some x := by
    intro j
    induction j with
    | zero => intro a _ x h; exact h
    | succ j ih => intro a e x h; exact hm (a + j) x (ih a e x h)
  unfold evf
  have hx : ∃ r, ∃ k, f k = some r := ⟨r, K, h⟩
  rw [dif_pos hx]
  obtain ⟨k, hk⟩ := Classical.choose_spec hx
  have e1 := up K k rfl _ hk
  have e2 := up k K rfl _ h
  rw [Nat.add_comm] at e2
  rw [e1] at e2
  exact e2
end Go.Proofs.Ytjkhckbfkinheaa.GAa

set_option linter.unusedVariables false
set_option linter.unusedSimpArgs false
set_option linter.unusedSectionVars false
namespace Go.Proofs.Ytjkhckbfkinheaa.GAa
open Go Go.RowKit Go.Proofs.YtjkhckbfkinheaaW.PrintWords Go.Proofs.YtjkhckbfkinheaaW.PrintLast Go.Proofs.YtjkhckbfkinheaaW.PrintMore
open Go.Proofs.YtjkhckbfkinheaaW
abbrev EN := S58
abbrev NW := S56
theorem wrap_in {i : Int} (h0 : -9223372036854775808 ≤ i) (h1 : i < 9223372036854775808) : wrap64 i = i := by
  unfold wrap64
  omega
def RisingN (l : List NW) : Prop := l.Pairwise fun x y => x.f0 < y.f0
theorem rising_inj {l : List NW} (h : RisingN l) {x y : NW} (hx : x ∈ l) (hy : y ∈ l) (e : x.f0 = y.f0) : x = y := by
  induction h with
  | nil => cases hx
  | @cons a r ha hr ih =>
    rcases List.mem_cons.1 hx with hx1 | hx1
    · rcases List.mem_cons.1 hy with hy1 | hy1
      · rw [hx1, hy1]
      · have := ha y hy1
        rw [← hx1] at this
        omega
    · rcases List.mem_cons.1 hy with hy1 | hy1
      · have := ha x hx1
        rw [← hy1] at this
        omega
      · exact ih hx1 hy1
/-- Sorting what is a permutation of a rising list gives that list. -/
theorem sort_is {l L : List NW} (hp : L.Perm l) (hL : RisingN L) : l.mergeSort leN = L := by
  have tr : ∀ a b c : NW, leN a b = true → leN b c = true → leN a c = true := fun a b c h1 h2 => by
    unfold leN at *
    have := of_decide_eq_true h1
    have := of_decide_eq_true h2
    exact decide_eq_true (by omega)
  have tot : ∀ a b : NW, (leN a b || leN b a) = true := fun a b => by
    unfold leN
    by_cases c : a.f0 ≤ b.f0
    · simp [c]
    · simp [c]
      omega
  refine List.Perm.eq_of_pairwise (le := fun a b => leN a b = true) (fun a b ha hb h1 h2 => ?_) (List.pairwise_mergeSort tr tot l) (hL.imp fun h => decide_eq_true (by omega)) ((List.mergeSort_perm l leN).trans hp.symm)
  have h1' := of_decide_eq_true h1
  have h2' := of_decide_eq_true h2
  exact rising_inj hL (hp.mem_iff.2 ((List.mergeSort_perm l leN).mem_iff.1 ha)) hb (by omega)

theorem same_news (l : List NW) (hl : l.length ≤ 3000000000000) (k : Nat) : ∀ n i : Nat, i + n = l.length → beaconref06_SameNews.l0 (k + 2 * n + 1) l l i = some true := by
  intro n
  induction n with
  | zero =>
    intro i hi
    rw [beaconref06_SameNews.l0, if_neg (by omega)]
  | succ n ih =>
    intro i hi
    have hw : wrap64 ((i : Int) + 1) = ((i + 1 : Nat) : Int) := by rw [wrap_in (by omega) (by omega)]; omega
    rw [show k + 2 * (n + 1) + 1 = (k + 2 * n + 1) + 1 + 1 by omega, beaconref06_SameNews.l0, if_pos (by omega), if_pos (by omega), if_pos (by omega), if_pos rfl, if_pos rfl, if_pos rfl, if_pos rfl, beaconref06_SameNews.j1, if_neg (by simp), hw]
    exact ih (i + 1) (by omega)
end Go.Proofs.Ytjkhckbfkinheaa.GAa

set_option linter.unusedVariables false
set_option linter.unusedSimpArgs false
set_option linter.unusedSectionVars false
namespace Go.Proofs.Ytjkhckbfkinheaa.GAa
open Go Go.RowKit Go.Proofs.YtjkhckbfkinheaaW.PrintWords Go.Proofs.YtjkhckbfkinheaaW.PrintLast Go.Proofs.YtjkhckbfkinheaaW.PrintMore
open Go.Proofs.YtjkhckbfkinheaaW

/-! ### numbers and distances -/
theorem numberS (k : Nat) (a : Int) : scopedv_number.f (k + 1) a = some (cid a == 0) := by
  unfold scopedv_number.f
  rw [cid_prog]
  rfl
theorem number16 (k : Nat) (a : Int) : beaconref16_number.f (k + 1) a = some (cid a == 0) := by
  unfold beaconref16_number.f
  rw [cid_ref]
  rfl
theorem far16 (d : Nat) : beaconref16_far.f d = some (isFar d) := by
  unfold beaconref16_far.f
  rw [isInf1]
  rfl
/-- Layer 6's distances. -/
def isD0 (d : Nat) : Bool := decide (d = 0) || isD d
theorem read_small {d : Nat} (hd : d < 9223372036854775808) : FloatKind.f64.format.read d = (if d < 4503599627370496 then .number false d FloatKind.f64.format.leastPlace else if d < 9218868437227405312 then .number false (4503599627370496 + d % 4503599627370496) (FloatKind.f64.format.leastPlace + (d / 4503599627370496 - 1 : Nat)) else if d = 9218868437227405312 then .infinity false else .nan false (d - 9218868437227405312)) := by
  have h1 : FloatKind.f64.format.signWeight = 9223372036854775808 := by decide
  have h2 : FloatKind.f64.format.infRung = 9218868437227405312 := by decide
  have h3 : FloatKind.f64.format.binade = 4503599627370496 := by decide
  have hn : (d / 9223372036854775808 % 2 == 1) = false := by
    rw [Nat.div_eq_of_lt hd]
    rfl
  have hm : d % 9223372036854775808 = d := Nat.mod_eq_of_lt hd
  unfold Ieee.Format.read
  simp only [h1, h2, h3, hn, hm]
/-- A word that bears no sign, is not nought and no NaN: above nought. -/
theorem pos_word {d : Nat} (hd : d < 9223372036854775808) (h0 : d ≠ 0) (hn : fEq d d = true) : fLt 0 d = true := by
  have hr := read_small hd
  unfold fLt fEq Ieee.Format.order at *
  rw [read_zero]
  have key : ∀ n j, 0 < n → (Ieee.Datum.order (.number false 0 FloatKind.f64.format.leastPlace) (.number false n j) == some .lt) = true := fun n j hp => by
    simp only [Ieee.Datum.order, signed_false, zero_shl]
    have := shl_pos (u := (j - min FloatKind.f64.format.leastPlace j).toNat) hp
    have e : compare ((0 : Nat) : Int) ((n <<< (j - min FloatKind.f64.format.leastPlace j).toNat : Nat) : Int) = .lt := Int.compare_eq_lt.2 (by omega)
    rw [e]
    rfl
  rw [hr] at hn ⊢
  split
  · exact key _ _ (by omega)
  · split
    · exact key _ _ (by omega)
    · split
      · rfl
      · rename_i c1 c2 c3
        rw [if_neg c1, if_neg c2, if_neg c3] at hn
        exact absurd hn (by simp [Ieee.Datum.order])
theorem sign_is (d : Nat) (hd : d < 18446744073709551616) : math_Signbit.f d = some (decide (9223372036854775808 ≤ d)) := by
  unfold math_Signbit.f
  congr 1
  by_cases h : 9223372036854775808 ≤ d
  · rw [decide_eq_true h]
    unfold wrap64
    exact decide_eq_true (by omega)
  · rw [decide_eq_false h]
    unfold wrap64
    exact decide_eq_false (by omega)
theorem isD_parts {d : Nat} (hd : d < 18446744073709551616) (h : isD d = true) : d < 9223372036854775808 ∧ fEq d d = true := by
  have ha : FloatKind.f64.format.read d = .infinity false ∨ ∃ n j, FloatKind.f64.format.read d = .number false n j ∧ 0 < n := by
    unfold isD isFar at h
    rcases Bool.or_eq_true_iff.1 h with h | h
    · exact inf_above h
    · simp only [Bool.and_eq_true] at h
      exact pos_above h.1.1
  exact ⟨above_sign hd ha, above_eq ha⟩
theorem zero_four : fMulOk 0 4616189618054758400 = true ∧ fTruncOk (fMul 0 4616189618054758400) = true ∧ fEq (fMul 0 4616189618054758400) (fTrunc (fMul 0 4616189618054758400)) = true ∧ fLt 0 4742290407621132288 = true ∧ fEq 0 0 = true ∧ isFar 0 = false := ⟨by decide, by decide, by decide, by decide, by decide, by decide⟩
theorem mdist (k : Nat) (d : Nat) (hd : d < 18446744073709551616) : message_distance.f (k + 1) d = some (isD0 d) := by
  unfold message_distance.f
  rw [sign_is d hd]
  simp only [Option.bind_some]
  have no : ¬ (d < 9223372036854775808 ∧ fEq d d = true) → isD0 d = false := fun h => by
    unfold isD0
    have h1 : isD d = false := by
      cases hi : isD d with
      | false => rfl
      | true => exact absurd (isD_parts hd hi) h
    rw [h1, Bool.or_false, decide_eq_false]
    rintro rfl
    exact h ⟨by omega, zero_four.2.2.2.2.1⟩
  by_cases hs : 9223372036854775808 ≤ d
  · rw [decide_eq_true hs, if_pos rfl, message_distance.j0, if_pos rfl, no (fun h => by omega)]
  · rw [decide_eq_false hs, if_neg (by simp)]
    unfold math_IsNaN.f
    simp only [Option.bind_some]
    cases hn : fEq d d with
    | false =>
      rw [message_distance.j0, if_pos (by rfl), no (fun h => by rw [hn] at h; cases h.2)]
    | true =>
      rw [message_distance.j0, if_neg (by simp), isInf1]
      simp only [Option.bind_some]
      cases hf : isFar d with
      | true =>
        rw [if_pos rfl]
        simp [isD0, isD, hf]
      | false =>
        rw [if_neg (by simp)]
        by_cases h0 : d = 0
        · subst h0
          obtain ⟨z1, z2, z3, z4, _, _⟩ := zero_four
          rw [if_pos z4, if_pos z1]
          unfold math_Trunc.f
          rw [if_pos z2]
          simp [z3, isD0]
        · have hp := pos_word (by omega) h0 hn
          by_cases hl : fLt d 4742290407621132288 = true
          · obtain ⟨ha, hb⟩ := mid_ok hp hl
            rw [if_pos hl, if_pos ha]
            unfold math_Trunc.f
            rw [if_pos hb]
            simp [isD0, isD, hf, hp, hl, h0, isQ]
          · rw [if_neg hl]
            simp [isD0, isD, hf, hp, hl, h0]
theorem cid_one : cid 1 = 0 := by
  unfold cid
  rw [if_pos (by omega)]
theorem one_news (k : Nat) (d : Nat) (hd : d < 18446744073709551616) : message_news.f (k + 3) 1 1 d 0 0 = some (isD0 d) := by
  have e1 : message_number.f (k + 3) 1 = some true := by
    unfold message_number.f
    rw [cid_prog, cid_one]
    rfl
  have e2 : message_distance.f (k + 3) d = some (isD0 d) := mdist (k + 2) d hd
  unfold message_news.f
  rw [e1, Option.bind_some, if_pos rfl, if_pos rfl, e2, Option.bind_some]
  generalize isD0 d = b
  clear e1 e2
  have j1 : message_news.j1 (k + 2) true 1 1 d 0 0 = some true := by
    rw [message_news.j1, if_pos rfl, if_pos (by rfl)]
    rfl
  have j0 : message_news.j0 (k + 3) (!b) 1 1 d 0 0 = if (!b) = true then some false else message_news.j1 (k + 2) true 1 1 d 0 0 := by
    rw [message_news.j0, if_pos rfl]
  rw [j0, j1]
  cases b <;> rfl
theorem distanceS (k : Nat) (d : Nat) (hd : d < 18446744073709551616) : scopedv_distance.f (k + 12) d = some (isD0 d) := by
  unfold scopedv_distance.f message_Check.f
  rw [if_neg (show ¬ (2 : Int) = 1 by omega), if_pos rfl]
  have hn : message_none.f 0 0 0 0 0 0 0 0 (⟨#[]⟩ : ByteArray) 0 0 (⟨#[]⟩ : ByteArray) = some true := by kernel_rfl
  have w1 : wrap64 (0 + 1) = 1 := by
    rw [wrap_id (by omega) (by omega)]
    rfl
  obtain ⟨n, hnw⟩ : ∃ n : S56, n = ⟨1, 1, d, 0, 0⟩ := ⟨_, rfl⟩
  rw [← hnw]
  have hr : rd_T56 [n] 0 = n := rfl
  have step2 : ∀ b : Bool, message_Check.l0 (k + 8) b [n] ([n].length : Int) 1 2 1 1 1 [n] 0 0 0 0 0 0 0 0 (⟨#[]⟩ : ByteArray) 0 0 (⟨#[]⟩ : ByteArray) = some (if b = true then 0 else 60) := fun b => by
    rw [show k + 8 = k + 7 + 1 from rfl, message_Check.l0, if_neg (by simp), show k + 7 = k + 6 + 1 from rfl, message_Check.j3]
    cases b <;> rfl
  have step1 : message_Check.l0 (k + 9) true [n] ([n].length : Int) 0 2 1 1 1 [n] 0 0 0 0 0 0 0 0 (⟨#[]⟩ : ByteArray) 0 0 (⟨#[]⟩ : ByteArray) = some (if isD0 d = true then 0 else 60) := by
    rw [show k + 9 = k + 8 + 1 from rfl, message_Check.l0, if_pos (by simp), if_pos (by omega), if_pos (by simp), if_pos rfl, hr, hnw]
    rw [← hnw]
    have h1 : message_news.f (k + 8) n.f0 n.f1 n.f2 n.f3 n.f4 = some (isD0 d) := by
      rw [hnw]
      exact one_news (k + 5) d hd
    rw [h1]
    simp only [Option.bind_some, w1, if_true]
    have s1 := step2 true
    have s2 := step2 false
    cases isD0 d with
    | true =>
      rw [if_pos rfl]
      exact s1
    | false =>
      rw [if_neg (by simp)]
      exact s2
  rw [show k + 12 = k + 11 + 1 from rfl, message_Check.j0, if_pos rfl, if_pos (show (1 : Int) > 0 by omega), if_pos (show (1 : Int) > 0 by omega), if_pos (show (1 : Int) > 0 by omega), hn]
  rw [Option.bind_some, if_pos rfl]
  rw [if_pos (show (([n] : List S56).length : Int) ≤ 512 by simp), show k + 11 = k + 10 + 1 from rfl, message_Check.j1]
  have s0 := step1
  rw [show k + 10 = (k + 9) + 1 from rfl]
  have mono := (message_Check.mono_l (k + 9)).2.2.2 true [n] ([n].length : Int) 0 2 1 1 1 [n] 0 0 0 0 0 0 0 0 (⟨#[]⟩ : ByteArray) 0 0 (⟨#[]⟩ : ByteArray) _ s0
  rw [mono, if_pos (show ((2 : Int) == 2) = true from rfl), Option.bind_some]
  cases isD0 d <;> rfl
theorem far06' (k : Nat) (d : Nat) : beaconref06_Far.f (k + 1) d = some (isD0 d) := far06 k d

/-! ### homes -/
theorem d0_far {d : Nat} (h : isFar d = true) : isD0 d = true := by simp [isD0, isD, h]
def homeOk (self id home : Int) (rad : Nat) : Bool := decide (id = self) && (if home = 0 then isFar rad else cid home == 0 && isD0 rad && !isFar rad && (fEq rad 0 == (home == self)))
theorem cid_zero : cid 0 = 20 := rfl
theorem homedS (k : Nat) (self id home : Int) (rad : Nat) (hr : rad < 18446744073709551616) : scopedv_homed.f (k + 12) self id home rad = some (homeOk self id home rad) := by
  unfold scopedv_homed.f homeOk
  by_cases c : id = self
  · rw [if_pos c, distanceS k rad hr, decide_eq_true c, Bool.true_and]
    simp only [Option.bind_some]
    rw [show k + 12 = k + 11 + 1 from rfl, scopedv_homed.j0]
    cases hi : isD0 rad with
    | false =>
      rw [if_pos (by rfl)]
      have hf : isFar rad = false := by
        cases hf : isFar rad with
        | false => rfl
        | true =>
          rw [d0_far hf] at hi
          cases hi
      by_cases h0 : home = 0 <;> simp [h0, hf]
    | true =>
      rw [if_neg (by simp), isInf1]
      simp only [Option.bind_some]
      cases hf : isFar rad with
      | true =>
        rw [if_pos rfl]
        by_cases h0 : home = 0
        · simp [h0]
        · simp [h0]
      | false =>
        rw [if_neg (by simp), numberS]
        simp only [Option.bind_some]
        by_cases h0 : home = 0
        · subst h0
          rw [cid_zero]
          rfl
        · rw [if_neg h0]
          by_cases hc : cid home = 0
          · simp [hc]
          · simp [hc]
  · rw [if_neg c, decide_eq_false c, Bool.false_and, show k + 12 = k + 11 + 1 from rfl, scopedv_homed.j0, if_pos rfl]
theorem homed16 (k : Nat) (self id home : Int) (rad : Nat) : beaconref16_MayHome.f (k + 12) self id home rad = some (homeOk self id home rad) := by
  unfold beaconref16_MayHome.f homeOk
  by_cases c : id = self
  · rw [if_pos c, decide_eq_true c, Bool.true_and]
    by_cases h0 : home = 0
    · rw [if_pos h0, if_pos h0, far16]
      rfl
    · rw [if_neg h0, if_neg h0, number16 (k + 11)]
      simp only [Option.bind_some]
      by_cases hc : cid home = 0
      · rw [hc, far06' (k + 11)]
        simp only [Option.bind_some, far16]
        cases hi : isD0 rad <;> cases hf : isFar rad <;> simp
      · have e : (cid home == 0) = false := by simpa using hc
        simp [e]
  · rw [if_neg c, decide_eq_false c, Bool.false_and]

/-! ### balls -/
def elemOk (self : Int) (x : EN) : Bool := (x.f1 == 2 || x.f1 == 3) && cid x.f0 == 0 && !(x.f0 == self) && cid x.f3 == 0 && isD0 x.f2 && !fEq x.f2 0 && !isFar x.f2 && isD0 x.f4 && !fLt x.f4 x.f2 && (if isFar x.f4 = true then x.f5 == 0 else cid x.f5 == 0)
theorem ballS (k : Nat) (self : Int) (x : EN) (h2 : x.f2 < 18446744073709551616) (h4 : x.f4 < 18446744073709551616) : scopedv_ball.f (k + 14) self x.f0 x.f1 x.f2 x.f3 x.f4 x.f5 = some (elemOk self x) := by
  obtain ⟨x0, x1, x2, x3, x4, x5⟩ := x
  simp only at h2 h4
  have j1 : ∀ b : Bool, scopedv_ball.j1 (k + 13) b x0 x1 x2 x3 x4 x5 = some (!b && (if isFar x4 = true then x5 == 0 else cid x5 == 0)) := fun b => by
    cases b with
    | true => rw [scopedv_ball.j1, if_pos rfl]; rfl
    | false =>
      rw [scopedv_ball.j1, if_neg (by simp), isInf1, Option.bind_some]
      by_cases c : isFar x4 = true
      · rw [if_pos c, if_pos c]
        rfl
      · rw [if_neg c, if_neg c, numberS (k + 11), Option.bind_some]
        rfl
  have j0 : ∀ b : Bool, scopedv_ball.j0 (k + 14) b x0 x1 x2 x3 x4 x5 = some (!b && isD0 x2 && !fEq x2 0 && !isFar x2 && isD0 x4 && !fLt x4 x2 && (if isFar x4 = true then x5 == 0 else cid x5 == 0)) := fun b => by
    cases b with
    | true => rw [scopedv_ball.j0, if_pos rfl]; rfl
    | false =>
      rw [scopedv_ball.j0, if_neg (by simp), distanceS (k + 1) x2 h2, Option.bind_some]
      cases hd : isD0 x2 with
      | false => rw [if_neg (by simp), j1]; rfl
      | true =>
        rw [if_pos rfl]
        cases he : fEq x2 0 with
        | true => rw [if_pos rfl, j1]; rfl
        | false =>
          rw [if_neg (by simp), isInf1, Option.bind_some]
          cases hf : isFar x2 with
          | true => rw [if_pos rfl, j1]; rfl
          | false =>
            rw [if_neg (by simp), distanceS (k + 1) x4 h4, Option.bind_some]
            cases hd4 : isD0 x4 with
            | false => rw [if_neg (by simp), j1]; rfl
            | true => rw [if_pos rfl, j1]; rfl
  unfold scopedv_ball.f elemOk
  simp only
  have both : ∀ K : Bool, K = true → ((scopedv_number.f (k + 14) x0).bind fun t => if t = true then (if x0 = self then scopedv_ball.j0 (k + 14) true x0 x1 x2 x3 x4 x5 else (scopedv_number.f (k + 14) x3).bind fun t2 => scopedv_ball.j0 (k + 14) (!t2) x0 x1 x2 x3 x4 x5) else scopedv_ball.j0 (k + 14) true x0 x1 x2 x3 x4 x5) =
      some (K && cid x0 == 0 && !(x0 == self) && cid x3 == 0 && isD0 x2 && !fEq x2 0 && !isFar x2 && isD0 x4 && !fLt x4 x2 && (if isFar x4 = true then x5 == 0 else cid x5 == 0)) := fun K hK => by
    subst hK
    rw [numberS (k + 13), Option.bind_some, numberS (k + 13)]
    cases hc : (cid x0 == 0) with
    | false => rw [if_neg (by simp), j0]; simp
    | true =>
      rw [if_pos rfl]
      by_cases hs : x0 = self
      · rw [if_pos hs, j0]
        simp [hs]
      · have hs' : (x0 == self) = false := by simpa using hs
        rw [if_neg hs, Option.bind_some, j0, hs']
        simp
  by_cases c2 : x1 = 2
  · rw [if_pos c2]
    have e : (x1 == 2 || x1 == 3) = true := by simp [c2]
    rw [e]
    exact both true rfl
  · rw [if_neg c2]
    by_cases c3 : x1 = 3
    · rw [if_pos c3]
      have e : (x1 == 2 || x1 == 3) = true := by simp [c3]
      rw [e]
      exact both true rfl
    · rw [if_neg c3, j0]
      have e : (x1 == 2 || x1 == 3) = false := by simp [c2, c3]
      rw [e]
      simp
def aheadB (a b : EN) : Bool := decide (a.f1 < b.f1 ∨ a.f1 = b.f1 ∧ a.f0 < b.f0)
theorem ahead16 (a b : EN) : beaconref16_ahead.f a.f0 a.f1 a.f2 a.f3 a.f4 a.f5 b.f0 b.f1 b.f2 b.f3 b.f4 b.f5 = some (aheadB a b) := by
  unfold beaconref16_ahead.f aheadB
  by_cases c : a.f1 < b.f1
  · rw [if_pos c, decide_eq_true (.inl c)]
  · rw [if_neg c]
    by_cases e : a.f1 = b.f1
    · rw [if_pos e]
      by_cases d : a.f0 < b.f0
      · rw [decide_eq_true d, decide_eq_true (.inr ⟨e, d⟩)]
      · rw [decide_eq_false d, decide_eq_false (by omega)]
    · rw [if_neg e, decide_eq_false (by omega)]
theorem elem_parts {self : Int} {x : EN} (h : elemOk self x = true) : (x.f1 = 2 ∨ x.f1 = 3) ∧ 1 ≤ x.f0 ∧ x.f0 ≤ 2147483647 ∧ x.f0 ≠ self := by
  unfold elemOk at h
  simp only [Bool.and_eq_true, Bool.or_eq_true, Bool.not_eq_true', beq_iff_eq, beq_eq_false_iff_ne] at h
  obtain ⟨⟨⟨⟨⟨⟨⟨⟨⟨h1, h2⟩, h3⟩, _⟩, _⟩, _⟩, _⟩, _⟩, _⟩, _⟩ := h
  unfold cid at h2
  by_cases c : 1 ≤ x.f0 ∧ x.f0 ≤ 2147483647
  · exact ⟨h1, c.1, c.2, h3⟩
  · rw [if_neg c] at h2
    omega
theorem orderS {self : Int} {a b : EN} (ha : elemOk self a = true) (hb : elemOk self b = true) : ∃ o, scopedv_order.f a.f0 a.f1 a.f2 a.f3 a.f4 a.f5 b.f0 b.f1 b.f2 b.f3 b.f4 b.f5 = some o ∧ decide (o ≥ 0) = !aheadB a b := by
  obtain ⟨a1, a2, a3, _⟩ := elem_parts ha
  obtain ⟨b1, b2, b3, _⟩ := elem_parts hb
  unfold scopedv_order.f aheadB
  by_cases c : a.f1 = b.f1
  · rw [if_pos c]
    refine ⟨_, rfl, ?_⟩
    rw [wrap_id (by omega) (by omega)]
    by_cases d : a.f0 < b.f0
    · rw [decide_eq_true (p := a.f1 < b.f1 ∨ a.f1 = b.f1 ∧ a.f0 < b.f0) (.inr ⟨c, d⟩), decide_eq_false (by omega)]
      rfl
    · rw [decide_eq_false (p := a.f1 < b.f1 ∨ a.f1 = b.f1 ∧ a.f0 < b.f0) (by omega), decide_eq_true (by omega)]
      rfl
  · rw [if_neg c]
    refine ⟨_, rfl, ?_⟩
    rw [wrap_id (by omega) (by omega)]
    by_cases d : a.f1 < b.f1
    · rw [decide_eq_true (p := a.f1 < b.f1 ∨ a.f1 = b.f1 ∧ a.f0 < b.f0) (.inl d), decide_eq_false (by omega)]
      rfl
    · rw [decide_eq_false (p := a.f1 < b.f1 ∨ a.f1 = b.f1 ∧ a.f0 < b.f0) (by omega), decide_eq_true (by omega)]
      rfl

/-! ### the loops -/
def okS (self : Int) (l : List EN) (i : Int) : Bool := elemOk self (rd_T58 l i) && (decide (i ≤ 0) || aheadB (rd_T58 l (i - 1)) (rd_T58 l i))
def ballNews (x : EN) : NW := ⟨x.f0, 2, x.f2, x.f4, x.f5⟩
def isBall (x : EN) : Bool := x.f1 == 2
theorem Gv.shift {α : Type} {f g : Nat → Option α} {r : α} (c : Nat) (h : ∀ k, f (k + c) = g k) (hg : Gv g r) : Gv f r := by
  obtain ⟨K, hK⟩ := hg
  exact ⟨K + c, fun k hk => by
    have := h (k - c)
    rw [Nat.sub_add_cancel (by omega)] at this
    rw [this]
    exact hK _ (by omega)⟩
theorem Gv.from {α : Type} {f : Nat → Option α} {r : α} (K : Nat) (h : ∀ m, f (m + K) = some r) : Gv f r := ⟨K, fun k hk => by
  have := h (k - K)
  rwa [Nat.sub_add_cancel hk] at this⟩
section
variable (self : Int) (l : List EN) (hl : l.length ≤ 2932031007317)
include hl
theorem rd_in {i : Nat} (h : i < l.length) : rd_T58 l i = l[i] := by simp [rd_T58, List.getD_eq_getElem?_getD, h]
theorem may_step (m : Nat) (i : Nat) (hi : i < l.length) : beaconref16_MayBalls.l0 (m + 6) self l i = if okS self l i = true then beaconref16_MayBalls.l0 m self l ((i + 1 : Nat) : Int) else some false := by
  have hw : wrap64 ((i : Int) + 1) = ((i + 1 : Nat) : Int) := by rw [wrap_id (by omega) (by omega)]; omega
  have hw1 : wrap64 ((i : Int) - 1) = (i : Int) - 1 := wrap_id (by omega) (by omega)
  unfold okS
  rw [show m + 6 = m + 5 + 1 from rfl, beaconref16_MayBalls.l0, if_pos (by omega), if_pos (by omega)]
  generalize hx : rd_T58 l i = x
  obtain ⟨x0, x1, x2, x3, x4, x5⟩ := x
  simp only
  have j5 : ∀ b : Bool, beaconref16_MayBalls.j5 (m + 1) self l i b = if (!b) = true then beaconref16_MayBalls.l0 m self l ((i + 1 : Nat) : Int) else some false := fun b => by
    rw [beaconref16_MayBalls.j5, hw]
    cases b <;> rfl
  have j3 : ∀ b : Bool, beaconref16_MayBalls.j3 (m + 3) self l i b x0 x1 x2 x3 x4 x5 = if (!b && (if isFar x4 = true then x5 == 0 else cid x5 == 0)) = true then beaconref16_MayBalls.l0 m self l ((i + 1 : Nat) : Int) else some false := fun b => by
    have j4 : ∀ c : Bool, beaconref16_MayBalls.j4 (m + 2) self l i c x0 x1 x2 x3 x4 x5 = if (!c && (x5 == 0 || !isFar x4)) = true then beaconref16_MayBalls.l0 m self l ((i + 1 : Nat) : Int) else some false := fun c => by
      rw [beaconref16_MayBalls.j4]
      cases c with
      | true => rfl
      | false =>
        rw [if_neg (by simp)]
        by_cases h0 : x5 = 0
        · rw [if_pos h0, j5]
          simp [h0]
        · rw [if_neg h0, far16, Option.bind_some, j5]
          have : (x5 == 0) = false := by simpa using h0
          rw [this]
          simp
    rw [beaconref16_MayBalls.j3]
    cases b with
    | true => rfl
    | false =>
      rw [if_neg (by simp), number16 (m + 1), Option.bind_some]
      by_cases hc : cid x5 = 0
      · rw [hc, if_pos (show ((0 : Int) == 0) = true from rfl), j4]
        have h0 : x5 ≠ 0 := fun e => by rw [e, cid_zero] at hc; omega
        have : (x5 == 0) = false := by simpa using h0
        rw [this]
        cases isFar x4 <;> simp
      · have e : (cid x5 == 0) = false := by simpa using hc
        rw [e, if_neg (by simp)]
        by_cases h0 : x5 = 0
        · rw [if_pos h0, far16, Option.bind_some, j4]
          cases isFar x4 <;> simp [h0]
        · have h0' : (x5 == 0) = false := by simpa using h0
          rw [if_neg h0, j4]
          cases isFar x4 <;> simp [h0']
  have j2 : ∀ b : Bool, beaconref16_MayBalls.j2 (m + 4) self l i b x0 x1 x2 x3 x4 x5 = if (!b && isD0 x2 && !fEq x2 0 && !isFar x2 && isD0 x4 && !fLt x4 x2 && (if isFar x4 = true then x5 == 0 else cid x5 == 0)) = true then beaconref16_MayBalls.l0 m self l ((i + 1 : Nat) : Int) else some false := fun b => by
    rw [beaconref16_MayBalls.j2]
    cases b with
    | true => rfl
    | false =>
      rw [if_neg (by simp), far06' (m + 2), Option.bind_some]
      cases hd : isD0 x2 with
      | false => rw [if_neg (by simp), j3]; rfl
      | true =>
        rw [if_pos rfl, far16, Option.bind_some]
        cases hf : isFar x2 with
        | true =>
          rw [if_pos rfl, j3]
          cases fEq x2 0 <;> rfl
        | false =>
          rw [if_neg (by simp)]
          cases he : fEq x2 0 with
          | true => rw [if_pos rfl, j3]; rfl
          | false =>
            rw [if_neg (by simp), far06' (m + 2), Option.bind_some]
            cases hd4 : isD0 x4 with
            | false => rw [if_neg (by simp), j3]; rfl
            | true => rw [if_pos rfl, j3]; rfl
  have tail : ((beaconref16_number.f (m + 4) x0).bind fun t => if t = true then (if x0 = self then beaconref16_MayBalls.j2 (m + 4) self l i true x0 x1 x2 x3 x4 x5 else (beaconref16_number.f (m + 4) x3).bind fun t2 => beaconref16_MayBalls.j2 (m + 4) self l i (!t2) x0 x1 x2 x3 x4 x5) else beaconref16_MayBalls.j2 (m + 4) self l i true x0 x1 x2 x3 x4 x5) =
      if (cid x0 == 0 && !(x0 == self) && cid x3 == 0 && isD0 x2 && !fEq x2 0 && !isFar x2 && isD0 x4 && !fLt x4 x2 && (if isFar x4 = true then x5 == 0 else cid x5 == 0)) = true then beaconref16_MayBalls.l0 m self l ((i + 1 : Nat) : Int) else some false := by
    rw [number16 (m + 3), Option.bind_some, number16 (m + 3)]
    cases hc : (cid x0 == 0) with
    | false => rw [if_neg (by simp), j2]; simp
    | true =>
      rw [if_pos rfl]
      by_cases hs : x0 = self
      · rw [if_pos hs, j2]
        simp [hs]
      · have hs' : (x0 == self) = false := by simpa using hs
        rw [if_neg hs, Option.bind_some, j2, hs']
        simp
  have j1 : ∀ b : Bool, beaconref16_MayBalls.j1 (m + 5) self l i b x0 x1 x2 x3 x4 x5 = if (!b && (cid x0 == 0 && !(x0 == self) && cid x3 == 0 && isD0 x2 && !fEq x2 0 && !isFar x2 && isD0 x4 && !fLt x4 x2 && (if isFar x4 = true then x5 == 0 else cid x5 == 0)) && (decide ((i : Int) ≤ 0) || aheadB (rd_T58 l ((i : Int) - 1)) ⟨x0, x1, x2, x3, x4, x5⟩)) = true then beaconref16_MayBalls.l0 m self l ((i + 1 : Nat) : Int) else some false := fun b => by
    rw [beaconref16_MayBalls.j1]
    cases b with
    | true => simp
    | false =>
      rw [if_neg (by simp)]
      by_cases hi0 : (i : Int) > 0
      · rw [if_pos hi0, hw1, if_pos (by omega), if_pos (by omega)]
        have ha := ahead16 (rd_T58 l ((i : Int) - 1)) ⟨x0, x1, x2, x3, x4, x5⟩
        simp only at ha
        rw [ha, Option.bind_some, decide_eq_false (show ¬ (i : Int) ≤ 0 by omega)]
        cases aheadB (rd_T58 l ((i : Int) - 1)) ⟨x0, x1, x2, x3, x4, x5⟩ with
        | true =>
          rw [if_pos rfl, tail]
          simp
        | false =>
          rw [if_neg (by simp), j2]
          simp
      · rw [if_neg hi0, tail, decide_eq_true (show (i : Int) ≤ 0 by omega)]
        simp
  unfold elemOk
  simp only
  by_cases c2 : x1 = 2
  · rw [if_pos c2, j1]
    have e : (x1 == 2 || x1 == 3) = true := by simp [c2]
    rw [e]
    simp
  · rw [if_neg c2, j1]
    have e : (x1 != 3) = !(x1 == 2 || x1 == 3) := by
      have : (x1 == 2) = false := by simpa using c2
      rw [this, Bool.false_or]
      rfl
    rw [e, Bool.not_not]
    simp [Bool.and_assoc]
open Classical in
theorem may_loop : ∀ n i : Nat, i + n = l.length → ∀ m, beaconref16_MayBalls.l0 (m + 6 * n + 1) self l i = some (decide (∀ j : Nat, i ≤ j → j < l.length → okS self l j = true)) := by
  intro n
  induction n with
  | zero =>
    intro i hi m
    rw [beaconref16_MayBalls.l0, if_neg (by omega), decide_eq_true]
    intro j h1 h2
    omega
  | succ n ih =>
    intro i hi m
    rw [show m + 6 * (n + 1) + 1 = (m + 6 * n + 1) + 6 by omega, may_step self l hl _ i (by omega)]
    by_cases c : okS self l i = true
    · rw [if_pos c, ih (i + 1) (by omega) m]
      congr 1
      refine decide_eq_decide.2 ⟨fun h j h1 h2 => ?_, fun h j h1 h2 => h j (by omega) h2⟩
      by_cases e : j = i
      · rw [e]
        exact c
      · exact h j (by omega) h2
    · rw [if_neg c, decide_eq_false]
      intro h
      exact c (h i (Nat.le_refl _) (by omega))
theorem drop_in {i : Nat} (h : i < l.length) : l.drop i = rd_T58 l i :: l.drop (i + 1) := by
  rw [rd_in l hl h]
  exact List.drop_eq_getElem_cons h
theorem tellS_loop (hd : ∀ x ∈ l, x.f2 < 18446744073709551616 ∧ x.f4 < 18446744073709551616) : ∀ (n i : Nat) (acc : List NW), i + n = l.length → acc.length ≤ i + 1 → (0 < i → elemOk self (rd_T58 l ((i : Int) - 1)) = true) →
    ((∀ j : Nat, i ≤ j → j < l.length → okS self l j = true) → ∀ r, sort_News.f (acc ++ ((l.drop i).filter isBall).map ballNews) 58 = some r → ∀ m, scopedv_Tell.l0 (m + 2 * n + 17) self l acc l l.length i = some (r, 0)) ∧
    (¬ (∀ j : Nat, i ≤ j → j < l.length → okS self l j = true) → ∀ m, scopedv_Tell.l0 (m + 2 * n + 17) self l acc l l.length i = some ([], 1)) := by
  intro n
  induction n with
  | zero =>
    intro i acc hi ha hp
    refine ⟨fun _ r hs m => ?_, fun h m => absurd (fun j h1 h2 => by omega) h⟩
    rw [List.drop_eq_nil_of_le (by omega)] at hs
    simp only [List.filter_nil, List.map_nil, List.append_nil] at hs
    rw [scopedv_Tell.l0, if_neg (by omega), hs]
    rfl
  | succ n ih =>
    intro i acc hi ha hp
    have hlt : i < l.length := by omega
    have hw : wrap64 ((i : Int) + 1) = ((i + 1 : Nat) : Int) := by rw [wrap_id (by omega) (by omega)]; omega
    have hw1 : wrap64 ((i : Int) - 1) = (i : Int) - 1 := wrap_id (by omega) (by omega)
    have hx := rd_in l hl hlt
    have hdx := hd _ (List.getElem_mem hlt)
    rw [← hx] at hdx
    -- one round
    have step : ∀ m, scopedv_Tell.l0 (m + 18) self l acc l l.length i = if okS self l i = true then (if isBall (rd_T58 l i) = true then scopedv_Tell.l0 (m + 16) self l (acc ++ [ballNews (rd_T58 l i)]) l l.length ((i + 1 : Nat) : Int) else scopedv_Tell.l0 (m + 16) self l acc l l.length ((i + 1 : Nat) : Int)) else some ([], 1) := fun m => by
      unfold okS
      rw [show m + 18 = m + 17 + 1 from rfl, scopedv_Tell.l0, if_pos (by omega), if_pos (by omega), if_pos (by omega)]
      have hb := ballS (m + 3) self (rd_T58 l i) hdx.1 hdx.2
      generalize hgx : rd_T58 l i = x at hb
      rw [show m + 17 = m + 3 + 14 from rfl, hb, Option.bind_some]
      have j2 : ∀ b : Bool, scopedv_Tell.j2 (m + 3 + 14) self l acc l l.length i b x.f0 x.f1 x.f2 x.f3 x.f4 x.f5 = if (!b) = true then (if isBall x = true then scopedv_Tell.l0 (m + 16) self l (acc ++ [ballNews x]) l l.length ((i + 1 : Nat) : Int) else scopedv_Tell.l0 (m + 16) self l acc l l.length ((i + 1 : Nat) : Int)) else some ([], 1) := fun b => by
        rw [show m + 3 + 14 = m + 16 + 1 from rfl, scopedv_Tell.j2]
        cases b with
        | true => rfl
        | false =>
          rw [if_neg (by simp), hw]
          unfold isBall ballNews
          by_cases c2 : x.f1 = 2
          · rw [if_pos c2, if_pos (by omega)]
            simp [c2]
          · rw [if_neg c2]
            simp [c2]
      cases he : elemOk self x with
      | false =>
        rw [if_neg (by simp), j2]
        simp
      | true =>
        rw [if_pos rfl, Bool.true_and]
        by_cases hi0 : (i : Int) > 0
        · rw [if_pos hi0, hw1, if_pos (by omega), if_pos (by omega)]
          obtain ⟨o, ho, hge⟩ := orderS (hp (by omega)) he
          rw [ho, Option.bind_some, hge, j2, Bool.not_not, decide_eq_false (show ¬ (i : Int) ≤ 0 by omega), Bool.false_or]
        · rw [if_neg hi0, j2, decide_eq_true (show (i : Int) ≤ 0 by omega)]
          rfl
    have hnext : okS self l i = true → 0 < i + 1 → elemOk self (rd_T58 l (((i + 1 : Nat) : Int) - 1)) = true := fun ho _ => by
      rw [show ((i + 1 : Nat) : Int) - 1 = (i : Int) by omega]
      unfold okS at ho
      exact (Bool.and_eq_true_iff.1 ho).1
    have hfl : ∀ m, m + 2 * (n + 1) + 17 = (m + 2 * n + 1) + 18 := fun m => by omega
    have hfl2 : ∀ m, m + 2 * n + 1 + 16 = m + 2 * n + 17 := fun m => by omega
    by_cases c : okS self l i = true
    · obtain ⟨g1, g2⟩ := ih (i + 1) (acc ++ [ballNews (rd_T58 l i)]) (by omega) (by simp; omega) (hnext c)
      obtain ⟨k1, k2⟩ := ih (i + 1) acc (by omega) (by omega) (hnext c)
      refine ⟨fun h r hs m => ?_, fun h m => ?_⟩
      · have h' : ∀ j : Nat, i + 1 ≤ j → j < l.length → okS self l j = true := fun j a b => h j (by omega) b
        rw [hfl, step, if_pos c, hfl2]
        rw [drop_in l hl hlt, List.filter_cons] at hs
        by_cases cb : isBall (rd_T58 l i) = true
        · rw [if_pos cb] at hs ⊢
          refine g1 h' r ?_ m
          simpa only [List.map_cons, List.append_assoc, List.singleton_append] using hs
        · rw [if_neg cb] at hs ⊢
          exact k1 h' r hs m
      · have h' : ¬ (∀ j : Nat, i + 1 ≤ j → j < l.length → okS self l j = true) := fun h2 => h fun j a b => by
          by_cases e : j = i
          · rw [e]
            exact c
          · exact h2 j (by omega) b
        rw [hfl, step, if_pos c, hfl2]
        by_cases cb : isBall (rd_T58 l i) = true
        · rw [if_pos cb]
          exact g2 h' m
        · rw [if_neg cb]
          exact k2 h' m
    · refine ⟨fun h => absurd (h i (Nat.le_refl _) hlt) c, fun h m => ?_⟩
      rw [hfl, step, if_neg c]
theorem tell16_loop : ∀ (n i : Nat) (acc : List NW) (r : List NW × Int), i + n = l.length → acc.length ≤ i + 1 → Gv (fun k => beaconref16_Tell.l1 k (acc ++ ((l.drop i).filter isBall).map ballNews) 0) r → Gv (fun k => beaconref16_Tell.l0 k l acc i) r := by
  intro n
  induction n with
  | zero =>
    intro i acc r hi ha h
    rw [List.drop_eq_nil_of_le (by omega)] at h
    simp only [List.filter_nil, List.map_nil, List.append_nil] at h
    exact Gv.shift 1 (fun k => by rw [beaconref16_Tell.l0, if_neg (by omega)]) h
  | succ n ih =>
    intro i acc r hi ha h
    have hlt : i < l.length := by omega
    have hw : wrap64 ((i : Int) + 1) = ((i + 1 : Nat) : Int) := by rw [wrap_id (by omega) (by omega)]; omega
    rw [drop_in l hl hlt, List.filter_cons] at h
    by_cases cb : isBall (rd_T58 l i) = true
    · rw [if_pos cb] at h
      refine Gv.shift 1 (fun k => ?_) (ih (i + 1) (acc ++ [ballNews (rd_T58 l i)]) r (by omega) (by simp; omega) (by simpa only [List.map_cons, List.append_assoc, List.singleton_append] using h))
      rw [beaconref16_Tell.l0, if_pos (by omega), if_pos (by omega), if_pos (by unfold isBall at cb; simpa using cb), if_pos (by omega), hw]
      rfl
    · rw [if_neg cb] at h
      refine Gv.shift 1 (fun k => ?_) (ih (i + 1) acc r (by omega) (by omega) h)
      rw [beaconref16_Tell.l0, if_pos (by omega), if_pos (by omega), if_neg (by unfold isBall at cb; simpa using cb), hw]
end

/-! ### the insertion sort -/
theorem swap_at (a x : NW) (T : List NW) : ∀ A : List NW, ((A ++ a :: x :: T).set (A.length + 1) a).set A.length x = A ++ x :: a :: T
  | [] => rfl
  | y :: r => by
    have := swap_at a x T r
    simp only [List.cons_append, List.length_cons, List.set_cons_succ]
    rw [this]
theorem rd_left (a x : NW) (T A : List NW) : rd_T56 (A ++ a :: x :: T) (A.length : Int) = a := by
  simp [rd_T56, List.getD_eq_getElem?_getD]
theorem rd_right (a x : NW) (T A : List NW) : rd_T56 (A ++ a :: x :: T) ((A.length + 1 : Nat) : Int) = x := by
  have e : A ++ a :: x :: T = (A ++ [a]) ++ x :: T := by simp
  rw [e]
  have : ((A.length + 1 : Nat) : Int).toNat = (A ++ [a]).length := by simp
  simp [rd_T56, List.getD_eq_getElem?_getD]
theorem ins_inner_all (R : List NW) (x : NW) (i : Nat) (hi : i ≤ 2932031007318) : ∀ (n : Nat) (A B : List NW), A.length = n → (A.length + B.length + R.length + 1 ≤ 2932031007319) → RisingN (A ++ B) → (∀ a ∈ A ++ B, a.f0 ≠ x.f0) → (∀ b ∈ B, x.f0 < b.f0) →
    ∃ S : List NW, S.Perm (x :: (A ++ B)) ∧ RisingN S ∧ (∀ r : List NW × Int, Gv (fun k => beaconref16_Tell.l1 k (S ++ R) ((i + 1 : Nat) : Int)) r → Gv (fun k => beaconref16_Tell.l2 k (A ++ x :: (B ++ R)) i n) r) := by
  have hw : wrap64 ((i : Int) + 1) = ((i + 1 : Nat) : Int) := by rw [wrap_id (by omega) (by omega)]; omega
  intro n
  induction n with
  | zero =>
    intro A B hA hlen hr hne hB
    obtain rfl := List.eq_nil_of_length_eq_zero hA
    refine ⟨x :: B, List.Perm.refl _, List.pairwise_cons.2 ⟨hB, hr⟩, fun r h => Gv.shift 2 (fun k => ?_) h⟩
    rw [show k + 2 = k + 1 + 1 from rfl, beaconref16_Tell.l2, if_neg (by omega), beaconref16_Tell.j5, if_neg (by simp), hw]
    rfl
  | succ n ih =>
    intro A B hA hlen hr hne hB
    obtain ⟨A', a, rfl⟩ : ∃ A' a, A = A' ++ [a] := by
      have hne0 : A ≠ [] := fun e => by rw [e] at hA; simp at hA
      exact ⟨A.dropLast, A.getLast hne0, (List.dropLast_concat_getLast hne0).symm⟩
    have hA' : A'.length = n := by simpa using hA
    have e1 : (A' ++ [a]) ++ x :: (B ++ R) = A' ++ a :: x :: (B ++ R) := by simp
    have e2 : (A' ++ [a]) ++ B = A' ++ (a :: B) := by simp
    rw [e1]
    rw [e2] at hr hne
    have hw1 : wrap64 (((n + 1 : Nat) : Int) - 1) = (n : Int) := by rw [wrap_id (by omega) (by omega)]; omega
    have hL : (A' ++ a :: x :: (B ++ R)).length = n + 2 + B.length + R.length := by simp [hA']; omega
    have r1 := rd_left a x (B ++ R) A'
    have r2 := rd_right a x (B ++ R) A'
    have sw := swap_at a x (B ++ R) A'
    rw [hA'] at r1 r2 sw
    have hlen' : A'.length + B.length + R.length + 2 ≤ 2932031007319 := by simp at hlen; omega
    have head : ∀ k, beaconref16_Tell.l2 (k + 2) (A' ++ a :: x :: (B ++ R)) i ((n + 1 : Nat) : Int) = if x.f0 < a.f0 then beaconref16_Tell.l2 k (A' ++ x :: a :: (B ++ R)) i n else beaconref16_Tell.l1 k (A' ++ a :: x :: (B ++ R)) ((i + 1 : Nat) : Int) := fun k => by
      rw [show k + 2 = k + 1 + 1 from rfl, beaconref16_Tell.l2, if_pos (by omega), if_pos (by omega), if_pos (by omega), hw1, if_pos (by omega), if_pos (by omega), beaconref16_Tell.j5, hw1, r1, r2]
      by_cases c : x.f0 < a.f0
      · rw [if_pos c, if_pos (by simpa using c), if_pos (by omega), if_pos (by omega), if_pos (by omega), if_pos (by omega)]
        have t1 : ((n + 1 : Nat) : Int).toNat = n + 1 := by omega
        have t2 : ((n : Nat) : Int).toNat = n := by omega
        rw [t1, t2, sw]
      · rw [if_neg c, if_neg (by simpa using c), hw]
    by_cases c : x.f0 < a.f0
    · obtain ⟨S, hS, hSr, hg⟩ := ih A' (a :: B) hA' (by simp; omega) hr hne (fun b hb => by
        rcases List.mem_cons.1 hb with rfl | hb
        · exact c
        · exact hB b hb)
      refine ⟨S, hS.trans (by rw [e2]), hSr, fun r h => Gv.shift 2 (fun k => ?_) (hg r h)⟩
      rw [head, if_pos c]
      rfl
    · have hax : a.f0 < x.f0 := by
        have := hne a (by simp)
        omega
      obtain ⟨p1, p2, p3⟩ := List.pairwise_append.1 hr
      obtain ⟨p4, p5⟩ := List.pairwise_cons.1 p2
      refine ⟨A' ++ a :: x :: B, ?_, ?_, fun r h => Gv.shift 2 (fun k => ?_) h⟩
      · rw [e2]
        have : (A' ++ a :: x :: B).Perm (x :: (A' ++ a :: B)) := by
          have q : A' ++ a :: x :: B = (A' ++ [a]) ++ x :: B := by simp
          rw [q]
          refine (List.perm_middle).trans ?_
          rw [show (A' ++ [a]) ++ B = A' ++ a :: B by simp]
        exact this
      · refine List.pairwise_append.2 ⟨p1, List.pairwise_cons.2 ⟨fun y hy => ?_, List.pairwise_cons.2 ⟨hB, p5⟩⟩, fun u hu v hv => ?_⟩
        · rcases List.mem_cons.1 hy with rfl | hy
          · exact hax
          · exact p4 y hy
        · have hua := p3 u hu a (by simp)
          rcases List.mem_cons.1 hv with rfl | hv
          · exact hua
          · rcases List.mem_cons.1 hv with rfl | hv
            · exact Int.lt_trans hua hax
            · exact p3 u hu v (by simp [hv])
      · rw [head, if_neg c]
        simp
theorem ins_sort : ∀ (R A : List NW), RisingN A → (A ++ R).Pairwise (fun a b => a.f0 ≠ b.f0) → (A ++ R).length ≤ 2932031007318 → ∃ L : List NW, L.Perm (A ++ R) ∧ RisingN L ∧ Gv (fun k => beaconref16_Tell.l1 k (A ++ R) (A.length : Int)) (L, 0) := by
  intro R
  induction R with
  | nil =>
    intro A hA hd hl
    refine ⟨A, by simp, hA, Gv.from 1 (fun m => ?_)⟩
    rw [beaconref16_Tell.l1, if_neg (by simp)]
    simp
  | cons x R ih =>
    intro A hA hd hl
    obtain ⟨d1, d2, d3⟩ := List.pairwise_append.1 hd
    have hlen : A.length + R.length + 1 ≤ 2932031007318 := by simp at hl; omega
    obtain ⟨S, hS, hSr, hg⟩ := ins_inner_all R x A.length (by omega) A.length A [] rfl (by simp; omega) (by simpa using hA) (by simpa using fun a ha => d3 a ha x (by simp)) (by simp)
    have hp : (S ++ R).Perm (A ++ x :: R) := by
      refine (hS.append_right R).trans ?_
      simp only [List.append_nil]
      exact List.perm_middle.symm
    have hSl : S.length = A.length + 1 := by
      have := hS.length_eq
      simpa using this
    obtain ⟨L, hL, hLr, hLg⟩ := ih S hSr (hp.symm.pairwise hd (fun h => fun e => h e.symm)) (by rw [hp.length_eq]; exact hl)
    refine ⟨L, hL.trans hp, hLr, Gv.shift 1 (fun k => ?_) (hg _ (by rw [← hSl]; exact hLg))⟩
    rw [beaconref16_Tell.l1, if_pos (by simp; omega)]
    simp

/-! ### awake -/
theorem awake16_true : beaconlaw16_awake.f = some true := by
  have hc : (evf fun k => landdv_Check.f k 1 [⟨2, 4607182418800017408, [⟨9, 2, 4611686018427387904, 4616189618054758400, 7⟩]⟩]) = some 0 := evf_eq (fun k => landdv_Check.mono _ _ k) (K := 40) (by kernel_rfl)
  have hl : metric_Limit.f 4636737291354636288 = some 0 := by kernel_rfl
  have hs : [(⟨2, 4607182418800017408, [⟨9, 2, 4611686018427387904, 4616189618054758400, 7⟩]⟩ : S54)].foldlM (ballHeard 1 4636737291354636288) [] = some [(9, ⟨9, 2, 4613937818241073152, 2, 4616189618054758400, 7⟩)] := by kernel_rfl
  have hn : NearE [(⟨9, 2, 4613937818241073152, 2, 4616189618054758400, 7⟩ : S58)] := by
    refine ⟨by simp, fun x hx => ?_, fun x hx y hy _ _ => ?_⟩
    · obtain rfl := List.mem_singleton.1 hx
      simp
    · obtain rfl := List.mem_singleton.1 hx
      obtain rfl := List.mem_singleton.1 hy
      rfl
  have ho : sort_Entry.f [(⟨9, 2, 4613937818241073152, 2, 4616189618054758400, 7⟩ : S58)] 35 = some [⟨9, 2, 4613937818241073152, 2, 4616189618054758400, 7⟩] := by
    unfold sort_Entry.f
    rw [if_pos ⟨rfl, hn⟩]
    simp
  have hm : scopedv_Balls.f 1 [⟨2, 4607182418800017408, [⟨9, 2, 4611686018427387904, 4616189618054758400, 7⟩]⟩] 4636737291354636288 = some ([⟨9, 2, 4613937818241073152, 2, 4616189618054758400, 7⟩], 0) := by
    unfold scopedv_Balls.f
    rw [hc, Option.bind_some, if_neg (by simp), hl, Option.bind_some, if_neg (by simp), if_pos (by simp), hs, Option.bind_some]
    simp only [List.map_cons, List.map_nil]
    rw [ho, Option.bind_some]
  unfold beaconlaw16_awake.f
  rw [hm]
  rfl

/-! ### the law -/
theorem same_gv (L : List NW) (hL : L.length ≤ 3000000000000) : Gv (fun k => beaconref06_SameNews.f k L L) true := Gv.from (2 * L.length + 1) (fun m => by
  unfold beaconref06_SameNews.f
  rw [if_pos rfl, show m + (2 * L.length + 1) = m + 2 * L.length + 1 by omega]
  exact same_news L hL m L.length 0 (by omega))
theorem ahead_trans {a b c : EN} (h1 : aheadB a b = true) (h2 : aheadB b c = true) : aheadB a c = true := by
  unfold aheadB at *
  have := of_decide_eq_true h1
  have := of_decide_eq_true h2
  exact decide_eq_true (by omega)
/-- What may be said of balls that may be. -/
theorem okS_parts {self : Int} {l : List EN} (hl : l.length ≤ 2932031007317) (h : ∀ j : Nat, 0 ≤ j → j < l.length → okS self l j = true) : l.Pairwise (fun a b => aheadB a b = true) ∧ ∀ x ∈ l, elemOk self x = true := by
  have key : ∀ (j : Nat) (hj : j < l.length), elemOk self l[j] = true ∧ (∀ (i : Nat) (hi : i < l.length), j = i + 1 → aheadB l[i] l[j] = true) := fun j hj => by
    have ho := h j (Nat.zero_le _) hj
    unfold okS at ho
    rw [rd_in l hl hj] at ho
    obtain ⟨h1, h2⟩ := Bool.and_eq_true_iff.1 ho
    refine ⟨h1, fun i hi e => ?_⟩
    rcases Bool.or_eq_true_iff.1 h2 with h2 | h2
    · have := of_decide_eq_true h2
      omega
    · rw [show (j : Int) - 1 = (i : Int) by omega, rd_in l hl hi] at h2
      exact h2
  have step : ∀ (n j : Nat) (hj : j + n + 1 < l.length), aheadB l[j] l[j + n + 1] = true := by
    intro n
    induction n with
    | zero =>
      intro j hj
      exact (key (j + 1) hj).2 j (by omega) rfl
    | succ n ih =>
      intro j hj
      exact ahead_trans (ih j (by omega)) ((key (j + n + 1 + 1) (by omega)).2 (j + n + 1) (by omega) rfl)
  refine ⟨List.pairwise_iff_getElem.2 fun i j hi hj hij => ?_, fun x hx => ?_⟩
  · have := step (j - i - 1) i (by omega)
    have e : i + (j - i - 1) + 1 = j := by omega
    simpa only [e] using this
  · obtain ⟨j, hj, rfl⟩ := List.getElem_of_mem hx
    exact (key j hj).1
theorem balls_rising {self : Int} {l : List EN} (h1 : l.Pairwise (fun a b => aheadB a b = true)) (h2 : ∀ x ∈ l, elemOk self x = true) : RisingN ((l.filter isBall).map ballNews) ∧ ∀ y ∈ (l.filter isBall).map ballNews, y.f0 ≠ self ∧ 1 ≤ y.f0 ∧ y.f0 ≤ 2147483647 := by
  refine ⟨?_, fun y hy => ?_⟩
  · unfold RisingN
    rw [List.pairwise_map]
    have h3 := h1.sublist (List.filter_sublist (p := isBall))
    refine List.Pairwise.imp_of_mem (fun {a b} ha hb hab => ?_) h3
    have a2 := (List.mem_filter.1 ha).2
    have b2 := (List.mem_filter.1 hb).2
    unfold isBall at a2 b2
    simp only [beq_iff_eq] at a2 b2
    unfold aheadB at hab
    have := of_decide_eq_true hab
    show a.f0 < b.f0
    omega
  · obtain ⟨x, hx, rfl⟩ := List.mem_map.1 hy
    obtain ⟨_, p1, p2, p3⟩ := elem_parts (h2 x (List.mem_filter.1 hx).1)
    exact ⟨p3, p1, p2⟩
open Classical in
/-- **ScopedvTells, as printed, comes to true.** -/
theorem stells_true (self id home : Int) (rad : Nat) (l : List EN) (hr : rad < 18446744073709551616) (hl : l.length ≤ 2932031007317) (hd : ∀ x ∈ l, x.f2 < 18446744073709551616 ∧ x.f4 < 18446744073709551616) : ∃ k, beaconlaw16_ScopedvTells.f k self id home rad l = some true := by
  have main : ∃ (L : List NW) (e : Int), L.length ≤ 2932031007318 ∧ Gv (fun k => scopedv_Tell.f k self id home rad l) (L, e) ∧ Gv (fun k => beaconref16_Tell.f k self id home rad l) (L, e) := by
    by_cases c0 : cid self = 0
    · have t0 : (cid self == 0) = true := by
        rw [c0]
        rfl
      cases hh : homeOk self id home rad with
      | false =>
        refine ⟨[], 1, by simp, Gv.from 12 (fun m => ?_), Gv.from 13 (fun m => ?_)⟩
        · unfold scopedv_Tell.f
          rw [numberS (m + 11), Option.bind_some, if_pos t0, homedS m self id home rad hr, hh, Option.bind_some, if_neg (by simp)]
        · unfold beaconref16_Tell.f
          rw [number16 (m + 12), Option.bind_some, if_pos t0, homed16 (m + 1), hh, Option.bind_some, if_neg (by simp), beaconref16_Tell.j0, if_pos rfl]
      | true =>
        by_cases hok : ∀ j : Nat, 0 ≤ j → j < l.length → okS self l j = true
        · obtain ⟨pw, pe⟩ := okS_parts hl hok
          obtain ⟨br, bp⟩ := balls_rising pw pe
          have hself : 1 ≤ self ∧ self ≤ 2147483647 := by
            unfold cid at c0
            by_cases c : 1 ≤ self ∧ self ≤ 2147483647
            · exact c
            · rw [if_neg c] at c0
              omega
          have hfl := List.length_filter_le isBall l
          -- one's own ahead of the balls, or not
          have fin : ∀ acc : List NW, acc.length ≤ 1 → RisingN acc → (∀ a ∈ acc, a.f0 = self) →
              (∀ k, scopedv_Tell.f (k + 30) self id home rad l = scopedv_Tell.j0 (k + 30) self l acc) → (∀ k, beaconref16_Tell.f (k + 6 * l.length + 30) self id home rad l = beaconref16_Tell.j1 (k + 6 * l.length + 29) l acc) →
              ∃ (L : List NW) (e : Int), L.length ≤ 2932031007318 ∧ Gv (fun k => scopedv_Tell.f k self id home rad l) (L, e) ∧ Gv (fun k => beaconref16_Tell.f k self id home rad l) (L, e) := fun acc ha hacc hs h1 h2 => by
            have hpw : (acc ++ (l.filter isBall).map ballNews).Pairwise (fun a b => a.f0 ≠ b.f0) := by
              refine List.pairwise_append.2 ⟨hacc.imp fun h => by omega, br.imp fun h => by omega, fun a ha b hb => ?_⟩
              rw [hs a ha]
              exact fun e => (bp b hb).1 e.symm
            have hlen : (acc ++ (l.filter isBall).map ballNews).length ≤ 2932031007318 := by
              rw [List.length_append, List.length_map]
              omega
            obtain ⟨L, hL, hLr, hLg⟩ := ins_sort (acc ++ (l.filter isBall).map ballNews) [] List.Pairwise.nil (by simpa using hpw) (by simpa using hlen)
            rw [List.nil_append] at hL
            have hnear : NearN (acc ++ (l.filter isBall).map ballNews) := by
              refine ⟨by omega, fun x hx => ?_, fun x hx y hy e => rising_inj hLr (hL.mem_iff.2 hx) (hL.mem_iff.2 hy) e⟩
              rcases List.mem_append.1 hx with hx | hx
              · rw [hs x hx]
                omega
              · have := bp x hx
                omega
            have hsort : sort_News.f (acc ++ ((l.drop 0).filter isBall).map ballNews) 58 = some L := by
              rw [List.drop_zero]
              unfold sort_News.f
              rw [if_pos ⟨.inl rfl, hnear⟩, sort_is hL hLr]
            refine ⟨L, 0, by rw [hL.length_eq]; exact hlen, ?_, ?_⟩
            · refine Gv.shift 30 (g := fun k => scopedv_Tell.j0 (k + 30) self l acc) h1 ?_
              have := (tellS_loop self l hl hd l.length 0 acc (by omega) (by omega) (by omega)).1 hok L hsort
              refine Gv.from (2 * l.length) (fun m => ?_)
              rw [show m + 2 * l.length + 30 = (m + 12 + 2 * l.length + 17) + 1 by omega, scopedv_Tell.j0]
              exact this (m + 12)
            · refine Gv.shift (6 * l.length + 30) (g := fun k => beaconref16_Tell.j1 (k + 6 * l.length + 29) l acc) (fun k => by rw [← h2 k]; congr 1) ?_
              have := tell16_loop l hl l.length 0 acc (L, 0) (by omega) (by omega) (by rw [List.drop_zero]; exact hLg)
              obtain ⟨K, hK⟩ := this
              exact ⟨K, fun k hk => by
                show beaconref16_Tell.j1 (k + 6 * l.length + 29) l acc = _
                rw [show k + 6 * l.length + 29 = (k + 6 * l.length + 28) + 1 by omega, beaconref16_Tell.j1]
                exact hK _ (by omega)⟩
          have hmay : ∀ k, beaconref16_MayBalls.f (k + 6 * l.length + 30) self l = some true := fun k => by
            unfold beaconref16_MayBalls.f
            have := may_loop self l hl l.length 0 (by omega) (k + 29)
            rw [decide_eq_true hok] at this
            rw [show k + 6 * l.length + 30 = k + 29 + 6 * l.length + 1 by omega]
            exact this
          by_cases ch : home = self
          · refine fin [] (by simp) List.Pairwise.nil (by simp) (fun k => ?_) (fun k => ?_)
            · unfold scopedv_Tell.f
              rw [numberS (k + 29), Option.bind_some, if_pos t0, show k + 30 = (k + 18) + 12 from rfl, homedS (k + 18) self id home rad hr, hh, Option.bind_some, if_pos rfl, if_pos ch]
            · unfold beaconref16_Tell.f
              rw [number16 (k + 6 * l.length + 29), Option.bind_some, if_pos t0, show k + 6 * l.length + 30 = (k + 6 * l.length + 18) + 12 from rfl, homed16 (k + 6 * l.length + 18), hh, Option.bind_some, if_pos rfl]
              rw [show (k + 6 * l.length + 18) + 12 = k + 6 * l.length + 30 from rfl, hmay, Option.bind_some, beaconref16_Tell.j0, if_neg (by simp), if_pos ch]
          · refine fin [⟨self, 2, 0, rad, home⟩] (by simp) (List.pairwise_singleton _ _) (by simp) (fun k => ?_) (fun k => ?_)
            · unfold scopedv_Tell.f
              rw [numberS (k + 29), Option.bind_some, if_pos t0, show k + 30 = (k + 18) + 12 from rfl, homedS (k + 18) self id home rad hr, hh, Option.bind_some, if_pos rfl, if_neg ch, if_pos (by simp)]
              rfl
            · unfold beaconref16_Tell.f
              rw [number16 (k + 6 * l.length + 29), Option.bind_some, if_pos t0, show k + 6 * l.length + 30 = (k + 6 * l.length + 18) + 12 from rfl, homed16 (k + 6 * l.length + 18), hh, Option.bind_some, if_pos rfl]
              rw [show (k + 6 * l.length + 18) + 12 = k + 6 * l.length + 30 from rfl, hmay, Option.bind_some, beaconref16_Tell.j0, if_neg (by simp), if_neg ch, if_pos (by simp)]
              rfl
        · refine ⟨[], 1, by simp, Gv.from (2 * l.length + 30) (fun m => ?_), Gv.from (6 * l.length + 30) (fun m => ?_)⟩
          · have hno : ∀ acc : List NW, acc.length ≤ 1 → scopedv_Tell.j0 (m + (2 * l.length + 30)) self l acc = some ([], 1) := fun acc ha => by
              rw [show m + (2 * l.length + 30) = (m + 12 + 2 * l.length + 17) + 1 by omega, scopedv_Tell.j0]
              exact (tellS_loop self l hl hd l.length 0 acc (by omega) (by omega) (by omega)).2 hok (m + 12)
            unfold scopedv_Tell.f
            rw [show m + (2 * l.length + 30) = (m + 2 * l.length + 18) + 12 by omega, numberS (m + 2 * l.length + 18 + 11), Option.bind_some, if_pos t0, homedS (m + 2 * l.length + 18) self id home rad hr, hh, Option.bind_some, if_pos rfl]
            rw [show (m + 2 * l.length + 18) + 12 = m + (2 * l.length + 30) by omega]
            by_cases ch : home = self
            · rw [if_pos ch]
              exact hno [] (by simp)
            · rw [if_neg ch, if_pos (by simp)]
              exact hno _ (by simp)
          · have hmay : beaconref16_MayBalls.f (m + (6 * l.length + 30)) self l = some false := by
              unfold beaconref16_MayBalls.f
              have := may_loop self l hl l.length 0 (by omega) (m + 29)
              rw [decide_eq_false hok] at this
              rw [show m + (6 * l.length + 30) = m + 29 + 6 * l.length + 1 by omega]
              exact this
            unfold beaconref16_Tell.f
            rw [show m + (6 * l.length + 30) = (m + 6 * l.length + 18) + 12 by omega, number16 (m + 6 * l.length + 18 + 11), Option.bind_some, if_pos t0, homed16 (m + 6 * l.length + 18), hh, Option.bind_some, if_pos rfl]
            rw [show (m + 6 * l.length + 18) + 12 = m + (6 * l.length + 30) by omega, hmay, Option.bind_some, show m + (6 * l.length + 30) = (m + 6 * l.length + 29) + 1 by omega, beaconref16_Tell.j0, if_pos (show (!false) = true from rfl)]
    · have e : (cid self == 0) = false := by simpa using c0
      refine ⟨[], 20, by simp, Gv.from 1 (fun m => ?_), Gv.from 1 (fun m => ?_)⟩
      · unfold scopedv_Tell.f
        rw [numberS m, e, Option.bind_some, if_neg (by simp)]
      · unfold beaconref16_Tell.f
        rw [number16 m, e, Option.bind_some, if_neg (by simp)]
  obtain ⟨L, e, hL, h1, h2⟩ := main
  have h3 := same_gv L (by omega)
  have hall : Gv (fun k => beaconlaw16_ScopedvTells.f k self id home rad l) true := by
    unfold beaconlaw16_ScopedvTells.f
    refine Gv.bind h1 (Gv.bind h2 ?_)
    simp only [if_true]
    refine Gv.bind h3 ?_
    simp only [if_true, awake16_true, Option.bind_some]
    exact ⟨0, fun _ _ => rfl⟩
  obtain ⟨K, hK⟩ := hall
  exact ⟨K, hK K (Nat.le_refl _)⟩
end Go.Proofs.Ytjkhckbfkinheaa.GAa

namespace Go.Proofs.Ytjkhckbfkinheaa.scopedvTells
open Go.ChangeShapes Go.WideShapes Go.ChangeAt Go.RowKit Go.Proofs.YtjkhckbfkinheaaW.PrintWords Go.Proofs.Ytjkhckbfkinheaa.GAa
set_option linter.unusedVariables false
theorem own : ownKnob Try.prog.godebug = none := by kernel_rfl
theorem laidOut : laidOutB Try.prog = true := by kernel_rfl
section
variable {H : Type} {enc : TypeId × Value → H} {w : World}
set_option maxRecDepth 100000 in
/-- An entry's cells. -/
theorem entry_of (n : Nat) (cs : List Value) (x : DataW H × List MemPlace) (hl : cs.length = 6) (h : DataW.trod enc Try.prog w 0 (fun _ => true) true n 58 cs = some x) : ∃ p : S58, k58.K w p cs ∧ (p.f2 < 18446744073709551616 ∧ p.f4 < 18446744073709551616) := by
  obtain ⟨ys, m, _, _, _, hyl, hf⟩ := DataW.trod_struct Try.underlying58 h
  match cs, hl with
  | [c0, c1, c2, c3, c4, c5], _ =>
    match ys, hyl with
    | [y0, y1, y2, y3, y4, y5], _ =>
      have h0 := hf 0 _ rfl
      have h1 := hf 1 _ rfl
      have h2 := hf 2 _ rfl
      have h3 := hf 3 _ rfl
      have h4 := hf 4 _ rfl
      have h5 := hf 5 _ rfl
      obtain ⟨n0, e0, _, _⟩ := DataW.trod_int Try.underlying3 h0
      obtain ⟨n1, e1, _, _⟩ := DataW.trod_int Try.underlying3 h1
      obtain ⟨n2, e2, _, w2⟩ := trod_float Try.underlying23 h2
      obtain ⟨n3, e3, _, _⟩ := DataW.trod_int Try.underlying3 h3
      obtain ⟨n4, e4, _, w4⟩ := trod_float Try.underlying23 h4
      obtain ⟨n5, e5, _, _⟩ := DataW.trod_int Try.underlying3 h5
      have k : Try.prog.cellsOf 3 = 1 := by kernel_rfl
      have kf : Try.prog.cellsOf 23 = 1 := by kernel_rfl
      simp [k, kf] at e0 e1 e2 e3 e4 e5
      subst e0 e1 e2 e3 e4 e5
      exact ⟨⟨n0, n1, n2, n3, n4, n5⟩, k58_mk w ⟨n0, n1, n2, n3, n4, n5⟩, float_small w2, float_small w4⟩
set_option maxRecDepth 100000 in
/-- A home's cells. -/
theorem home_of (n : Nat) (cs : List Value) (x : DataW H × List MemPlace) (hl : cs.length = 3) (h : DataW.trod enc Try.prog w 0 (fun _ => true) true n 34 cs = some x) : ∃ n0 n1 n2, cs = [.int .i64 n0, .int .i64 n1, .float .f64 n2] ∧ n2 < 18446744073709551616 := by
  obtain ⟨ys, m, _, _, _, hyl, hf⟩ := DataW.trod_struct Try.underlying34 h
  match cs, hl with
  | [c0, c1, c2], _ =>
    match ys, hyl with
    | [y0, y1, y2], _ =>
      have h0 := hf 0 _ rfl
      have h1 := hf 1 _ rfl
      have h2 := hf 2 _ rfl
      obtain ⟨n0, e0, _, _⟩ := DataW.trod_int Try.underlying3 h0
      obtain ⟨n1, e1, _, _⟩ := DataW.trod_int Try.underlying3 h1
      obtain ⟨n2, e2, _, w2⟩ := trod_float Try.underlying23 h2
      have k : Try.prog.cellsOf 3 = 1 := by kernel_rfl
      have kf : Try.prog.cellsOf 23 = 1 := by kernel_rfl
      simp [k, kf] at e0 e1 e2
      subst e0 e1 e2
      exact ⟨n0, n1, n2, rfl, float_small w2⟩
end
set_option maxRecDepth 100000 in
theorem lifted (os : Os) (started : os.Started) (H : Type) (enc : TypeId × Value → H) :
    ReturnsInHanded {} Try.checked os 5 .any (Rows.scopedvTellsSpec.pre6 enc Try.prog Try.f5 Rows.scopedvTellsRow.domain false) (Rows.scopedvTellsSpec.post enc Try.prog Try.f5 false true false false) := by
  refine returnsInHanded_of_change_sized (C := Try.checked) own started (by kernel_rfl) Try.func5
    (ChangeSpec.witness6 (enc := enc) (C := Try.checked) false ⟨#[], #[.int .i64 0, .agg #[.int .i64 0, .int .i64 0, .float .f64 0], .slice none 0 0], []⟩ 8 (by kernel_rfl) (by kernel_rfl) (by kernel_rfl) (by kernel_rfl)) ?_
  intro W base args ds gs before hval0 hW hcnd hsz0 _
  have hsz : (DataW.weightsEach Try.prog (Try.f5.params.toList ++ Rows.scopedvTellsSpec.plain.varTypes Try.prog) (ds ++ gs)).all (· ≤ reachBytes) = true := hsz0
  have hval : ∀ (j : Nat) t v, Try.f5.params[j]? = some t → args[j]? = some v → Value.okWide Try.prog W .any base t v := hval0
  have hW' := hW
  obtain ⟨p, q, hA0, hV, rfl, hfz, hnd⟩ := hW
  have hA : DataW.TrodAll enc Try.prog W 0 (fun _ => true) true Try.f5.params.toList args.toList ds p := hA0
  rw [Try.params5] at hA hval hsz
  obtain ⟨v0, vs0, d0, ds0, p0, q0, hargs, rfl, rfl, h0, r0⟩ := trodAll_cons hA
  obtain ⟨v1, vs1, d1, ds1, p1, q1, rfl, rfl, rfl, h1, r1⟩ := trodAll_cons r0
  obtain ⟨v2, vs2, d2, ds2, p2, q2, rfl, rfl, rfl, h2, r2⟩ := trodAll_cons r1
  obtain ⟨rfl, rfl, rfl⟩ := trodAll_nil r2
  obtain rfl : args = #[v0, v1, v2] := by cases args; simp_all
  obtain ⟨rfl, rfl⟩ := trodVars_none hV
  obtain ⟨a0, rfl, rfl, rfl, w0⟩ := open_int Try.underlying3 (hval 0 3 v0 rfl rfl) h0
  obtain ⟨cs1, rfl, hcs1⟩ := okWide_struct Try.underlying34 (hval 1 34 v1 rfl rfl)
  have k1 := h1
  have lt1 : ∀ x ∈ p1, x.block < W.heap.size := by obtain ⟨m, hm⟩ := k1; exact DataW.trod_lt m _ _ _ hm
  obtain ⟨b0, b1, b2, hc1, hb2⟩ : ∃ n0 n1 n2, cs1.toList = [.int .i64 n0, .int .i64 n1, .float .f64 n2] ∧ n2 < 18446744073709551616 := by
    obtain ⟨m, hm⟩ := k1
    exact home_of m _ _ (by rw [Array.length_toList]; exact hcs1) hm
  obtain rfl : cs1 = #[.int .i64 b0, .int .i64 b1, .float .f64 b2] := by rw [← Array.toArray_toList (xs := cs1), hc1]
  obtain ⟨A2, len2, cap2, rfl⟩ := okWide_slice Try.underlying24 (hval 2 24 v2 rfl rfl)
  have k2 := h2
  have lt2 : ∀ x ∈ p2, x.block < W.heap.size := by obtain ⟨m, hm⟩ := k2; exact DataW.trod_lt m _ _ _ hm
  obtain ⟨xs, hC, hcap, hQ, hlen⟩ := open_rows (k58.K W) (fun x => x.f2 < 18446744073709551616 ∧ x.f4 < 18446744073709551616) Try.underlying24 (size := 6) (B := 48) (by kernel_rfl) (by kernel_rfl) (fun n cs x hl h => entry_of n cs x hl h) hsz (j := 2) rfl rfl h2
  obtain rfl : len2 = xs.length := hC.1.symm
  obtain ⟨k, hk⟩ := stells_true a0 b0 b1 b2 xs hb2 (by omega) hQ
  clear hA0 hval0 hsz0 hsz
  refine (beaconlaw16_ScopedvTells.calls k a0 b0 b1 b2 A2 cap2 xs true W hC hcap hk).mono fun e W' ⟨he, bel⟩ => ?_
  subst he
  exact ⟨_, rfl, _, _, _, [], _, [], hW', trodAll_mk1 (shut_bool Try.underlying4 _), (trodAll_cons_mk (shut_int Try.underlying3 w0) (trodAll_cons_mk (Below.trod laidOut (by kernel_rfl) (of_decide_eq_true (by kernel_rfl)) k1 bel lt1) (trodAll_cons_mk (Below.trod laidOut (by kernel_rfl) (of_decide_eq_true (by kernel_rfl)) k2 bel lt2) trodAll_mk0))), rfl, bel.frame _, fun h => by cases h⟩
theorem over : Rows.scopedvTellsRow.holds Try.pinned (OpenSpec.ofChange Rows.scopedvTellsSpec) :=
  OpenClaim.holds_of_wide 5 Try.f5 rfl rfl rfl rfl rfl rfl rfl ⟨rfl, rfl, rfl, rfl, rfl⟩ rfl rfl rfl rfl rfl (by kernel_rfl) Try.func5 (by kernel_rfl)
    (of_decide_eq_true (by kernel_rfl)) (by unfold Func.isWrapper; first | (rw [if_pos (by decide +kernel)]; kernel_rfl) | (rw [if_neg (by decide +kernel)]; exact ⟨rfl, rfl⟩))
    (fun os started H enc _ => lifted os started H enc)
theorem proved : Rows.ScopedvTellsSaid := over
#print axioms proved
end Go.Proofs.Ytjkhckbfkinheaa.scopedvTells
namespace Go.Proofs.Ytjkhckbfkinheaa
/-- The row, under a short name, for the claim. -/
theorem scopedvTells_holds : Rows.ScopedvTellsSaid := scopedvTells.proved
end Go.Proofs.Ytjkhckbfkinheaa
