/- LanddvHomes holds at every input: what any router's nearest landmark is, by any marks, is what the document says; the input reads as it did. -/
import Derived.Test.YtjkhckbfkinheaaFlt
import Derived.WalkKit
import Derived.Deep.Slices
import Derived.Deep.Fields
import Derived.ChangeSame
import Derived.ChangeArms
import Derived.SizedLaws
import Derived.Test.YtjkhckbfkinheaaHMarksAa
import Derived.Test.YtjkhckbfkinheaaGAax13
import Derived.Test.YtjkhckbfkinheaaGAax14
import Derived.Test.YtjkhckbfkinheaaGAax15
import Derived.Test.YtjkhckbfkinheaaGAax16
import Derived.Test.YtjkhckbfkinheaaGAax17
import Derived.Test.YtjkhckbfkinheaaGAax19
import Derived.Test.YtjkhckbfkinheaaGAax20
import Derived.Test.YtjkhckbfkinheaaGAax21
import Derived.Test.YtjkhckbfkinheaaGAax22
import Derived.Test.YtjkhckbfkinheaaRows
import Derived.ProofKit
import Derived.OpenShut
import Derived.ShutString
import Derived.ChangeOld
import Derived.Below
set_option linter.unusedVariables false
namespace Go.Proofs.YtjkhckbfkinheaaW.PrintWords
open Go Go.ChangeShapes Go.WideShapes Go.RowKit Go.Deep
section
variable {H : Type} {enc : TypeId × Value → H} {P : Program} {w : World} {base : Nat} {spare : Nat → Bool} {held : Bool}
theorem trod_float {k : FloatKind} {t : TypeId} {fuel : Nat} {cs : List Value} {x : DataW H × List MemPlace} (ht : P.underlying t = some (.float k)) (h : DataW.trod enc P w base spare held fuel t cs = some x) : ∃ n, cs = [.float k n] ∧ x = (.lit (.float k n), []) ∧ (Lit.float k n).wf = true := by
  cases fuel with
  | zero => simp [DataW.trod] at h
  | succ n =>
    unfold DataW.trod at h
    rw [ht] at h
    split at h <;> simp_all
theorem float_small {n : Nat} (h : (Lit.float .f64 n).wf = true) : n < 18446744073709551616 := by
  simpa [Lit.wf] using h
/-- A slice whose elements can be told: a row that is read; its weight. -/
theorem open_rows {α : Type} (K : α → List Value → Prop) (Q : α → Prop) {t e : TypeId} {size B : Nat} (ht : P.underlying t = some (.slice e)) (hC : P.cellsOf e = size) (hB : P.bytesOf e = B)
    (hel : ∀ n cs x, cs.length = size → DataW.trod enc P w 0 (fun _ => true) true n e cs = some x → ∃ p : α, K p cs ∧ Q p) {A : Option Addr} {len cap : Nat} {d : DataW H} {ps : List MemPlace} {ts : List TypeId} {ds : List (DataW H)} {j : Nat}
    (hsz : (DataW.weightsEach P ts ds).all (· ≤ reachBytes) = true) (htj : ts[j]? = some t) (hdj : ds[j]? = some d)
    (h : DataW.Trod enc P w 0 (fun _ => true) true t (.slice A len cap) d ps) : ∃ xs : List α, ReadsRow K size w A len xs ∧ len ≤ cap ∧ (∀ x ∈ xs, Q x) ∧ len * B ≤ 140737488351232 := by
  obtain ⟨fuel, hf⟩ := h
  rcases open_slice ht hf with ⟨hcs, hx⟩ | ⟨a, l, c, m, n, D, Pl, hcs, hb, hl, hm, hmm, hx, hi⟩
  · simp [Value.cells] at hcs
    obtain ⟨rfl, rfl, rfl⟩ := hcs
    exact ⟨[], ⟨rfl, by omega, fun h => absurd h (by omega)⟩, Nat.le_refl _, by simp, by simp⟩
  · simp [Value.cells] at hcs
    obtain ⟨rfl, rfl, rfl⟩ := hcs
    simp only [if_true] at hmm
    have hch : ∀ i : Fin len, ∃ p : α, Q p ∧ ∃ cs, cs.length = size ∧ K p cs ∧ ∀ q u, cs[q]? = some u → w.cell? (a.add (i.1 * size + q)) = some u := fun i => by
      obtain ⟨cs, hc, htr⟩ := hi i.1 (by have := i.2; omega)
      rw [hC] at hc
      obtain ⟨hbase, hcl, hat⟩ := World.cells?_some hc
      obtain ⟨p, hk, hq⟩ := hel _ _ _ hcl htr
      refine ⟨p, hq, cs, hcl, hk, fun q u hu => ?_⟩
      have hq2 : q < size := by
        have := (List.getElem?_eq_some_iff.1 hu).1
        omega
      have := hat q hq2
      rw [Go.Deep.add_add] at this
      rw [this, hu]
    obtain ⟨F, hF⟩ := Classical.axiomOfChoice hch
    have hmax : cap ≤ 9223372036854775807 := by simpa [maxLen] using hm
    refine ⟨(List.finRange len).map F, ⟨by simp, by omega, fun _ => ⟨a, rfl, fun i p hp => ?_⟩⟩, hl, ?_, ?_⟩
    · rw [List.getElem?_map, Option.map_eq_some_iff] at hp
      obtain ⟨q, hq, rfl⟩ := hp
      have hqi : q.1 = i := by
        have := (List.getElem?_eq_some_iff.1 hq)
        obtain ⟨h1, h2⟩ := this
        rw [← h2]
        simp
      obtain ⟨_, cs, h1, h2, h3⟩ := hF q
      rw [hqi] at h3
      exact ⟨cs, h1, h2, h3⟩
    · intro x hx
      obtain ⟨q, _, rfl⟩ := List.mem_map.1 hx
      exact (hF q).1
    · obtain ⟨hx1, _⟩ := Prod.mk.inj hx
      subst hx1
      have z := sized_slice hsz htj hdj ht
      rw [hB] at z
      simp at z
      have z2 : len * B ≤ reachBytes := Nat.le_trans (Nat.mul_le_mul_right _ (by omega)) z
      exact Nat.le_trans z2 (by decide)
end
end Go.Proofs.YtjkhckbfkinheaaW.PrintWords

set_option linter.unusedVariables false
namespace Go.Proofs.YtjkhckbfkinheaaW.PrintWords
open Go Ieee

theorem read_zero : FloatKind.f64.format.read 0 = .number false 0 FloatKind.f64.format.leastPlace := by decide
theorem signed_false (m u : Nat) : signed false m u = (m <<< u : Nat) := rfl
theorem signed_true (m u : Nat) : signed true m u = -(m <<< u : Nat) := rfl
theorem shl_pos {m u : Nat} (h : 0 < m) : 0 < m <<< u := by
  rw [Nat.shiftLeft_eq]
  exact Nat.mul_pos h (Nat.pow_pos (by decide))
theorem zero_shl (u : Nat) : 0 <<< u = 0 := by rw [Nat.shiftLeft_eq, Nat.zero_mul]

/-- What is greater than a number that is no less than nought: infinity, or a number above nought. -/
theorem above {m : Nat} {i : Int} {D : Datum} (h : Datum.order (.number false m i) D = some .lt) : D = .infinity false ∨ ∃ n j, D = .number false n j ∧ 0 < n := by
  match D, h with
  | .infinity false, h => exact .inl rfl
  | .infinity true, h => simp [Datum.order] at h
  | .number false n j, h =>
    refine .inr ⟨n, j, rfl, ?_⟩
    rcases Nat.eq_zero_or_pos n with hn | hn
    · subst hn
      simp only [Datum.order, signed_false, zero_shl, Option.some.injEq] at h
      have h1 := Int.compare_eq_lt.1 h
      have h2 : (0 : Int) ≤ ((m <<< (i - min i j).toNat : Nat) : Int) := Int.natCast_nonneg _
      exact absurd h1 (by simpa using h2)
    · exact hn
  | .number true n j, h =>
    simp only [Datum.order, signed_false, signed_true, Option.some.injEq] at h
    have h1 := Int.compare_eq_lt.1 h
    have h2 : (0 : Int) ≤ ((m <<< (i - min i j).toNat : Nat) : Int) := Int.natCast_nonneg _
    have h3 : (0 : Int) ≤ ((n <<< (j - min i j).toNat : Nat) : Int) := Int.natCast_nonneg _
    exact absurd (Int.lt_of_le_of_lt h2 h1) (by generalize ((n <<< (j - min i j).toNat : Nat) : Int) = q at *; omega)
theorem above_not_zero {i : Int} {D : Datum} (h : D = .infinity false ∨ ∃ n j, D = .number false n j ∧ 0 < n) : Datum.order D (.number false 0 i) = some .gt := by
  rcases h with rfl | ⟨n, j, rfl, hn⟩
  · rfl
  · simp only [Datum.order, signed_false, zero_shl, Option.some.injEq]
    have := shl_pos (u := (j - min j i).toNat) hn
    exact Int.compare_eq_gt.2 (by omega)
theorem above_self {D : Datum} (h : D = .infinity false ∨ ∃ n j, D = .number false n j ∧ 0 < n) : Datum.order D D = some .eq := by
  rcases h with rfl | ⟨n, j, rfl, hn⟩
  · rfl
  · simp [Datum.order]
theorem lt_above {a d : Nat} {m : Nat} {i : Int} (ha : FloatKind.f64.format.read a = .number false m i) (h : fLt a d = true) : FloatKind.f64.format.read d = .infinity false ∨ ∃ n j, FloatKind.f64.format.read d = .number false n j ∧ 0 < n := by
  unfold fLt Format.order at h
  rw [ha] at h
  exact above (by simpa using h)
theorem above_ne_zero {d : Nat} (h : FloatKind.f64.format.read d = .infinity false ∨ ∃ n j, FloatKind.f64.format.read d = .number false n j ∧ 0 < n) : fEq d 0 = false := by
  unfold fEq Format.order
  rw [read_zero, above_not_zero h]
  rfl
theorem above_eq {d : Nat} (h : FloatKind.f64.format.read d = .infinity false ∨ ∃ n j, FloatKind.f64.format.read d = .number false n j ∧ 0 < n) : fEq d d = true := by
  unfold fEq Format.order
  rw [above_self h]
  rfl
/-- A word whose sign bit is not set. -/
theorem above_sign {d : Nat} (hd : d < 18446744073709551616) (h : FloatKind.f64.format.read d = .infinity false ∨ ∃ n j, FloatKind.f64.format.read d = .number false n j ∧ 0 < n) : d < 9223372036854775808 := by
  have hs : (d / 9223372036854775808 % 2 == 1) = false := by
    unfold Format.read at h
    have hw : FloatKind.f64.format.signWeight = 9223372036854775808 := by decide
    rw [hw] at h
    simp only at h
    generalize (d / 9223372036854775808 % 2 == 1) = b at h
    cases b with
    | false => rfl
    | true =>
      exfalso
      split at h
      · rcases h with h | ⟨n, j, h, _⟩ <;> cases h
      · split at h
        · rcases h with h | ⟨n, j, h, _⟩ <;> cases h
        · split at h
          · rcases h with h | ⟨n, j, h, _⟩ <;> cases h
          · rcases h with h | ⟨n, j, h, _⟩ <;> cases h
  simp at hs
  omega
theorem pos_above {d : Nat} (h : fLt 0 d = true) : FloatKind.f64.format.read d = .infinity false ∨ ∃ n j, FloatKind.f64.format.read d = .number false n j ∧ 0 < n := lt_above read_zero h
theorem read_max : ∃ m i, FloatKind.f64.format.read 9218868437227405311 = .number false m i := ⟨9007199254740991, 971, by decide⟩
theorem inf_above {d : Nat} (h : fLt 9218868437227405311 d = true) : FloatKind.f64.format.read d = .infinity false ∨ ∃ n j, FloatKind.f64.format.read d = .number false n j ∧ 0 < n := by
  obtain ⟨m, i, hm⟩ := read_max
  exact lt_above hm h
/-- Below a number: no infinity. -/
theorem below_number {d b m : Nat} {i : Int} (hb : FloatKind.f64.format.read b = .number false m i) (h : fLt d b = true) : FloatKind.f64.format.read d ≠ .infinity false := by
  intro e
  unfold fLt Format.order at h
  rw [hb, e] at h
  simp [Datum.order] at h
theorem read_word_ok (neg : Bool) (rung : Nat) (h : rung ≤ FloatKind.f64.format.infRung) : (FloatKind.f64.format.read (FloatKind.f64.format.word neg rung)).isNaN = false := by
  have h1 : FloatKind.f64.format.signWeight = 9223372036854775808 := by decide
  have h2 : FloatKind.f64.format.infRung = 9218868437227405312 := by decide
  have hr : FloatKind.f64.format.word neg rung % FloatKind.f64.format.signWeight = rung := by
    unfold Format.word
    rw [h1]
    rw [h2] at h
    split <;> omega
  unfold Format.read
  simp only [hr]
  split
  · rfl
  · split
    · rfl
    · split
      · rfl
      · exfalso
        omega
theorem nearest_ok (neg : Bool) (mag : Nat) (place : Int) : (FloatKind.f64.format.read (FloatKind.f64.format.nearest neg mag place)).isNaN = false := by
  unfold Format.nearest
  split
  · exact read_word_ok _ _ (Nat.zero_le _)
  · exact read_word_ok _ _ (Nat.min_le_right _ _)
theorem read_four : ∃ m i, FloatKind.f64.format.read 4616189618054758400 = .number false m i := ⟨4503599627370496, -50, by decide⟩
/-- A number above nought, times 4: there is an answer, and it is no NaN. -/
theorem mul_four {d n : Nat} {j : Int} (h : FloatKind.f64.format.read d = .number false n j) : fMulOk d 4616189618054758400 = true ∧ fTruncOk (fMul d 4616189618054758400) = true := by
  obtain ⟨m, i, hm⟩ := read_four
  have hmul : FloatKind.f64.format.mul d 4616189618054758400 = some (FloatKind.f64.format.nearest false (n * m) (j + i)) := by
    unfold Format.mul
    rw [h, hm]
    rfl
  unfold fMulOk fMul fTruncOk
  rw [hmul]
  refine ⟨rfl, ?_⟩
  have := nearest_ok false (n * m) (j + i)
  simpa [FloatKind.decode] using this
end Go.Proofs.YtjkhckbfkinheaaW.PrintWords

set_option linter.unusedVariables false
set_option linter.unusedSimpArgs false
namespace Go.Proofs.Ytjkhckbfkinheaa.GAa
open Go Go.RowKit Go.Proofs.YtjkhckbfkinheaaW.PrintWords Go.Proofs.YtjkhckbfkinheaaW.PrintLast Go.Proofs.YtjkhckbfkinheaaW.PrintMore
open Go.Proofs.YtjkhckbfkinheaaW

def cid (a : Int) : Int := if 1 ≤ a ∧ a ≤ 2147483647 then 0 else 20
theorem cid_prog (k : Nat) (a : Int) : ident_CheckId.f (k + 1) a = some (cid a) := by
  unfold ident_CheckId.f ident_CheckId.j0 cid
  by_cases h1 : a < 1
  · simp [h1] <;> omega
  · by_cases h2 : a > 2147483647
    · simp [h1, h2] <;> omega
    · simp [h1, h2] <;> omega
theorem cid_ref (k : Nat) (a : Int) : beaconref02_CheckId.f (k + 1) a = some (cid a) := by
  unfold beaconref02_CheckId.f beaconref02_CheckId.j0 cid
  by_cases h1 : a < 1
  · simp [h1] <;> omega
  · by_cases h2 : a > 2147483647
    · simp [h1, h2] <;> omega
    · simp [h1, h2] <;> omega
theorem number15 (k : Nat) (a : Int) : beaconref15_number.f (k + 1) a = some (cid a == 0) := by
  unfold beaconref15_number.f
  rw [cid_ref]
  rfl
theorem number06 (k : Nat) (a : Int) : beaconref06_number.f (k + 1) a = some (cid a == 0) := by
  unfold beaconref06_number.f
  rw [cid_ref]
  rfl
def isFar (d : Nat) : Bool := fLt 9218868437227405311 d
/-- A multiple of a quarter. -/
def isQ (d : Nat) : Bool := fEq (fMul d 4616189618054758400) (fTrunc (fMul d 4616189618054758400))
/-- A distance that is none of nought: infinity, or between 0 and the greatest limit, in quarters. -/
def isD (d : Nat) : Bool := isFar d || (fLt 0 d && fLt d 4742290407621132288 && isQ d)
theorem isInf1 (d : Nat) : math_IsInf.f d 1 = some (isFar d) := by
  unfold math_IsInf.f isFar
  simp
theorem far15 (d : Nat) : beaconref15_Far.f d = some (isFar d) := rfl
theorem read_limit : ∃ m i, FloatKind.f64.format.read 4742290407621132288 = .number false m i := by
  refine ⟨4503599627370496, ?_, ?_⟩
  · exact (FloatKind.f64.format.leastPlace + (4742290407621132288 / 4503599627370496 - 1 : Nat))
  · decide
/-- Between nought and the limit: what is asked of it can be answered. -/
theorem mid_ok {d : Nat} (h0 : fLt 0 d = true) (h1 : fLt d 4742290407621132288 = true) : fMulOk d 4616189618054758400 = true ∧ fTruncOk (fMul d 4616189618054758400) = true := by
  obtain ⟨m, i, hm⟩ := read_limit
  rcases pos_above h0 with h | ⟨n, j, h, _⟩
  · exact absurd h (below_number hm h1)
  · exact mul_four h
theorem quarter_mid {d : Nat} (h0 : fLt 0 d = true) (h1 : fLt d 4742290407621132288 = true) : metric_quarter.f d = some (isQ d) := by
  obtain ⟨ha, hb⟩ := mid_ok h0 h1
  unfold metric_quarter.f math_Trunc.f isQ
  simp [ha, hb]
theorem limit_ok : metric_Limit.f 4742290407621132288 = some 0 := by kernel_rfl
theorem dist_mid {d : Nat} (hd : d < 18446744073709551616) (h0 : fLt 0 d = true) : ∃ e, metric_Dist.f d 4742290407621132288 = some e ∧ (e == 0) = isD d := by
  have ha := pos_above h0
  have hn : math_IsNaN.f d = some false := by
    unfold math_IsNaN.f
    rw [above_eq ha]
    rfl
  have hs : math_Signbit.f d = some false := by
    unfold math_Signbit.f
    have h9 := above_sign hd ha
    have : wrap64 (d : Int) = d := by
      unfold wrap64
      omega
    rw [this]
    simp
  unfold metric_Dist.f
  rw [limit_ok]
  simp only [Option.bind_some, if_true, hn, hs, isInf1, Bool.false_eq_true, if_false]
  by_cases hf : isFar d = true
  · exact ⟨0, by simp [hf], by simp [isD, hf]⟩
  · have hf' : isFar d = false := by simpa using hf
    by_cases h1 : fLt d 4742290407621132288 = true
    · rw [quarter_mid h0 h1]
      by_cases hq : isQ d = true
      · exact ⟨0, by simp [hf', h1, hq], by simp [isD, hf', h0, h1, hq]⟩
      · exact ⟨15, by simp [hf', h1, hq], by simp [isD, hf', h0, h1, hq]⟩
    · exact ⟨16, by simp [hf', h1], by simp [isD, hf', h0, h1]⟩
theorem far06 (k : Nat) (d : Nat) : beaconref06_Far.f (k + 1) d = some (decide (d = 0) || isD d) := by
  unfold beaconref06_Far.f beaconref06_Far.j0
  rw [isInf1]
  simp only [Option.bind_some]
  by_cases hf : isFar d = true
  · simp [hf, isD]
  · have hf' : isFar d = false := by simpa using hf
    by_cases hz : d = 0
    · simp [hf', hz]
    · have hz' : ((d : Int) == 0) = false := by simp; omega
      by_cases h0 : fLt 0 d = true
      · by_cases h1 : fLt d 4742290407621132288 = true
        · obtain ⟨ha, hb⟩ := mid_ok h0 h1
          simp [hf', hz', hz, h0, h1, ha, hb, math_Trunc.f, isD, isQ]
        · simp [hf', hz', hz, h0, h1, isD]
      · simp [hf', hz', hz, h0, isD]

/-- May the entry at place i be a mark of self's? -/
def okAt (self : Int) (l : List S58) (i : Int) : Bool :=
  let x := rd_T58 l i
  x.f1 == 1 && x.f4 == 0 && x.f5 == 0 && isD x.f2 && (if isFar x.f2 then x.f3 == 0 else cid x.f3 == 0) && !(x.f0 == self) && cid x.f0 == 0 && (decide (i ≤ 0) || decide ((rd_T58 l (i - 1)).f0 < x.f0))
theorem wrap_id {i : Int} (h0 : -9223372036854775808 ≤ i) (h1 : i < 9223372036854775808) : wrap64 i = i := by
  unfold wrap64
  omega
theorem zero06 (d : Nat) : beaconref06_zero.f d = some (decide (d = 0)) := by
  unfold beaconref06_zero.f
  by_cases h : d = 0 <;> simp [h]
theorem far_not_zero {d : Nat} (h : isD d = true) : fEq d 0 = false ∧ d ≠ 0 := by
  have ha : FloatKind.f64.format.read d = .infinity false ∨ ∃ n j, FloatKind.f64.format.read d = .number false n j ∧ 0 < n := by
    unfold isD isFar at h
    rcases Bool.or_eq_true_iff.1 h with h | h
    · exact inf_above h
    · simp only [Bool.and_eq_true] at h
      exact pos_above h.1.1
  refine ⟨above_ne_zero ha, fun e => ?_⟩
  subst e
  rw [read_zero] at ha
  rcases ha with ha | ⟨n, j, ha, hn⟩
  · cases ha
  · injection ha with _ h2 _
    omega
theorem may_ref_step (m : Nat) (self : Int) (l : List S58) (i : Int) (h0 : 0 ≤ i) (h1 : i < l.length) (h2 : (l.length : Int) ≤ 2932031007317) :
    beaconref15_may.l0 (m + 3) self l i = if okAt self l i = true then beaconref15_may.l0 m self l (i + 1) else some 1 := by
  rw [beaconref15_may.l0]
  simp only [h0, h1, if_true]
  have hw : wrap64 (i - 1) = i - 1 := wrap_id (by omega) (by omega)
  have hw2 : wrap64 (i + 1) = i + 1 := wrap_id (by omega) (by omega)
  unfold okAt
  generalize rd_T58 l i = x
  obtain ⟨x0, x1, x2, x3, x4, x5⟩ := x
  simp only
  by_cases c1 : x1 = 1
  · subst c1
    simp only [beaconref06_May.f, number06, Option.bind_some, if_true]
    by_cases c0 : (cid x0 == 0) = true
    · simp only [c0, if_true, far06, Option.bind_some]
      by_cases cd : (decide (x2 = 0) || isD x2) = true
      · simp only [cd, Bool.not_true, beaconref06_May.j0, beaconref06_May.j1, Bool.false_eq_true, if_false, if_true, zero06, Option.bind_some]
        by_cases c4 : x4 = 0
        · subst c4
          simp only [decide_true, if_true]
          by_cases c5 : x5 = 0
          · subst c5
            simp only [beq_self_eq_true, if_true]
            by_cases cs : x0 = self
            · simp [cs, beaconref15_may.j1]
            · simp only [cs, if_false]
              by_cases cz : isD x2 = true
              · obtain ⟨z1, z2⟩ := far_not_zero cz
                simp only [z1, Bool.false_eq_true, if_false, cz, Bool.true_and, beq_self_eq_true, c0, Bool.and_true]
                have cs' : (x0 == self) = false := by simpa using cs
                simp only [cs', Bool.not_false, Bool.true_and]
                have fin : ∀ b : Bool, beaconref15_may.j1 (m + 2) self l i b x0 1 x2 x3 0 0 = if (b = false) ∧ (if isFar x2 = true then x3 = 0 else cid x3 = 0) then beaconref15_may.l0 m self l (i + 1) else some 1 := fun b => by
                  cases b with
                  | true => simp [beaconref15_may.j1]
                  | false =>
                    simp only [beaconref15_may.j1, Bool.false_eq_true, if_false, far15, Option.bind_some, true_and]
                    by_cases cf : isFar x2 = true
                    · by_cases c3 : x3 = 0 <;> simp [cf, c3, beaconref15_may.j2, hw2]
                    · by_cases c3 : x3 = 0
                      · subst c3
                        by_cases cc : cid 0 = 0 <;> simp [cf, number15, cc, beaconref15_may.j2, hw2]
                      · by_cases cc : cid x3 = 0 <;> simp [cf, number15, cc, beaconref15_may.j2, hw2]
                by_cases ci : i > 0
                · have ci' : ¬ i ≤ 0 := by omega
                  have h4 : (0 : Int) ≤ i - 1 := by omega
                  have h5 : i - 1 < (l.length : Int) := by omega
                  simp only [ci, if_true, hw, h4, h5, fin, ci', decide_false, Bool.false_or]
                  by_cases cp : (rd_T58 l (i - 1)).f0 < x0
                  · have cp' : ¬ (rd_T58 l (i - 1)).f0 ≥ x0 := by omega
                    by_cases cf : isFar x2 = true <;> simp [cp, cp', cf]
                  · have cp' : (rd_T58 l (i - 1)).f0 ≥ x0 := by omega
                    simp [cp, cp']
                · have ci' : i ≤ 0 := by omega
                  simp only [ci, if_false, fin, ci', decide_true, Bool.true_or, Bool.and_true]
                  by_cases cf : isFar x2 = true <;> simp [cf]
              · have : x2 = 0 := by
                  rw [Bool.not_eq_true] at cz
                  rw [cz] at cd
                  simpa using cd
                subst this
                have e : fEq 0 0 = true := by decide
                simp [e, beaconref15_may.j1, cz]
          · have : (x5 == 0) = false := by simpa using c5
            simp [this, beaconref15_may.j1]
        · simp [c4, beaconref15_may.j1]
      · have cd' : (decide (x2 = 0) || isD x2) = false := by simpa using cd
        have : isD x2 = false := (Bool.or_eq_false_iff.1 cd').2
        simp only [cd', Bool.not_false, beaconref06_May.j0]
        simp [this, beaconref15_may.j1]
    · have c0' : (cid x0 == 0) = false := by simpa using c0
      simp only [c0', Bool.false_eq_true, if_false, beaconref06_May.j0]
      simp [beaconref15_may.j1]
  · simp [c1, beaconref15_may.j1]
theorem may_prog_step (m : Nat) (self : Int) (l : List S58) (i : Int) (h0 : 0 ≤ i) (h1 : i < l.length) (h2 : (l.length : Int) ≤ 2932031007317) (hd : (rd_T58 l i).f2 < 18446744073709551616) :
    landdv_may.l0 (m + 5) self l l l.length i = if okAt self l i = true then landdv_may.l0 m self l l l.length (i + 1) else some false := by
  rw [landdv_may.l0]
  simp only [h0, h1, if_true]
  have hw : wrap64 (i - 1) = i - 1 := wrap_id (by omega) (by omega)
  have hw2 : wrap64 (i + 1) = i + 1 := wrap_id (by omega) (by omega)
  unfold okAt
  generalize rd_T58 l i = x at hd
  obtain ⟨x0, x1, x2, x3, x4, x5⟩ := x
  simp only at hd ⊢
  have last : ∀ b : Bool, landdv_may.j4 (m + 1) self l l l.length i b = if b = true then some false else landdv_may.l0 m self l l l.length (i + 1) := fun b => by
    cases b <;> simp [landdv_may.j4, hw2]
  have fin : ∀ far dist : Bool, landdv_may.j1 (m + 4) self l i far dist l l.length i x0 x1 x2 x3 x4 x5 = if (x1 == 1 && x4 == 0 && x5 == 0 && dist && (if far = true then x3 == 0 else cid x3 == 0) && !(x0 == self) && cid x0 == 0 && (decide (i ≤ 0) || decide ((rd_T58 l (i - 1)).f0 < x0))) = true then landdv_may.l0 m self l l l.length (i + 1) else some false := fun far dist => by
    have hop : landdv_may.j1 (m + 4) self l i far dist l l.length i x0 x1 x2 x3 x4 x5 = landdv_may.j2 (m + 3) self l i dist (if far = true then x3 == 0 else cid x3 == 0) l l.length i x0 x1 x2 x3 x4 x5 := by
      rw [landdv_may.j1, cid_prog]
      simp only [Option.bind_some]
      cases far with
      | true =>
        by_cases c3 : x3 = 0
        · subst c3
          by_cases cc : cid 0 = 0 <;> simp [cc]
        · have e : (x3 == 0) = false := by simpa using c3
          by_cases cc : cid x3 = 0 <;> simp [cc, c3, e]
      | false =>
        by_cases cc : cid x3 = 0
        · simp [cc]
        · have e : (cid x3 == 0) = false := by simpa using cc
          by_cases c3 : x3 = 0
          · subst c3
            simp [cc, e]
          · simp [cc, c3, e]
    rw [hop, landdv_may.j2]
    generalize (if far = true then x3 == 0 else cid x3 == 0) = hb
    by_cases c1 : x1 = 1
    · subst c1
      by_cases c4 : x4 = 0
      · subst c4
        simp only [if_true, landdv_may.j3, cid_prog, Option.bind_some, last, hw]
        by_cases c5 : x5 = 0
        · subst c5
          cases dist <;> cases hb <;> simp
          by_cases cs : x0 = self
          · simp [cs]
          · by_cases c0 : cid x0 = 0
            · by_cases ci : i > 0
              · have ci' : ¬ i ≤ 0 := by omega
                have h4 : (1 : Int) ≤ i := by omega
                have h5 : i - 1 < (l.length : Int) := by omega
                by_cases cp : (rd_T58 l (i - 1)).f0 < x0
                · have cp' : ¬ x0 ≤ (rd_T58 l (i - 1)).f0 := by omega
                  simp [cs, c0, ci, ci', h4, h5, cp, cp']
                · have cp' : x0 ≤ (rd_T58 l (i - 1)).f0 := by omega
                  simp [cs, c0, ci, ci', h4, h5, cp, cp']
              · have ci' : i ≤ 0 := by omega
                simp [cs, c0, ci, ci']
            · simp [cs, c0]
        · simp [c5]
      · have : ¬ ((x4 : Int) = 0) := by omega
        simp [c4, this, landdv_may.j3, last]
    · simp [c1, landdv_may.j3, last]
  rw [isInf1]
  simp only [Option.bind_some]
  by_cases cf : isFar x2 = true
  · simp only [cf, if_true, fin]
    simp [isD, cf]
  · have cf' : isFar x2 = false := by simpa using cf
    simp only [cf', Bool.false_eq_true, if_false]
    by_cases cz : fLt 0 x2 = true
    · obtain ⟨e, he, hz⟩ := dist_mid hd cz
      simp only [cz, if_true, he, Option.bind_some, fin, hz, Bool.false_eq_true, if_false]
    · simp only [cz, if_false, fin]
      simp [isD, cf', cz]
/-- All from place i on may be. -/
def okFrom (self : Int) (l : List S58) (i : Nat) : Prop := ∀ j : Nat, i ≤ j → j < l.length → okAt self l j = true
theorem may_both (self : Int) (l : List S58) (hl : (l.length : Int) ≤ 2932031007317) (hd : ∀ x ∈ l, x.f2 < 18446744073709551616) :
    ∀ n i : Nat, i + n = l.length → ∃ b : Bool, (∀ m, landdv_may.l0 (m + 5 * n + 1) self l l l.length i = some b) ∧ (∀ m, beaconref15_may.l0 (m + 3 * n + 1) self l i = some (if b = true then 0 else 1)) ∧ (b = true → okFrom self l i) := by
  intro n
  induction n with
  | zero =>
    intro i hi
    refine ⟨true, fun m => ?_, fun m => ?_, fun _ j h1 h2 => by omega⟩
    · rw [landdv_may.l0, if_neg (by omega)]
    · rw [beaconref15_may.l0, if_neg (by omega)]
      rfl
  | succ n ih =>
    intro i hi
    have hlt : i < l.length := by omega
    have hdi : (rd_T58 l i).f2 < 18446744073709551616 := by
      have : rd_T58 l i = l[i] := by simp [rd_T58, List.getD_eq_getElem?_getD, hlt]
      rw [this]
      exact hd _ (List.getElem_mem hlt)
    obtain ⟨b, h1, h2, h3⟩ := ih (i + 1) (by omega)
    by_cases ho : okAt self l i = true
    · refine ⟨b, fun m => ?_, fun m => ?_, fun hb j hj1 hj2 => ?_⟩
      · rw [show m + 5 * (n + 1) + 1 = (m + 5 * n + 1) + 5 by omega, may_prog_step _ _ _ _ (by omega) (by omega) hl hdi, if_pos ho]
        exact h1 m
      · rw [show m + 3 * (n + 1) + 1 = (m + 3 * n + 1) + 3 by omega, may_ref_step _ _ _ _ (by omega) (by omega) hl, if_pos ho]
        exact h2 m
      · by_cases e : j = i
        · rw [e]
          exact ho
        · exact h3 hb j (by omega) hj2
    · refine ⟨false, fun m => ?_, fun m => ?_, fun hb => by cases hb⟩
      · rw [show m + 5 * (n + 1) + 1 = (m + 5 * n + 1) + 5 by omega, may_prog_step _ _ _ _ (by omega) (by omega) hl hdi, if_neg ho]
      · rw [show m + 3 * (n + 1) + 1 = (m + 3 * n + 1) + 3 by omega, may_ref_step _ _ _ _ (by omega) (by omega) hl, if_neg ho]
        rfl
/-- What the two askings come to, and what it says of the marks. -/
theorem asked_both (a0 : Int) (l : List S58) (hl : l.length ≤ 2932031007317) (hd : ∀ x ∈ l, x.f2 < 18446744073709551616) (k : Nat) (hk : 5 * l.length + 20 ≤ k) :
    ∃ e, landdv_asked.f k a0 l = some e ∧ beaconref15_may.f k a0 l = some e ∧ (e = 0 → cid a0 = 0 ∧ okFrom a0 l 0) := by
  obtain ⟨b, h1, h2, h3⟩ := may_both a0 l (by omega) hd l.length 0 (by omega)
  obtain ⟨k', rfl⟩ : ∃ k', k = k' + 1 := ⟨k - 1, by omega⟩
  have hm1 : landdv_may.f (k' + 1) a0 l = some b := by
    unfold landdv_may.f
    have := h1 (k' - 5 * l.length)
    rwa [show k' - 5 * l.length + 5 * l.length + 1 = k' + 1 by omega] at this
  have hm2 : beaconref15_may.l0 (k' + 1) a0 l 0 = some (if b = true then 0 else 1) := by
    have := h2 (k' - 3 * l.length)
    rwa [show k' - 3 * l.length + 3 * l.length + 1 = k' + 1 by omega] at this
  refine ⟨if cid a0 = 0 then (if b = true then 0 else 1) else 20, ?_, ?_, ?_⟩
  · unfold landdv_asked.f
    rw [cid_prog]
    simp only [Option.bind_some, hm1]
    unfold cid
    by_cases c : 1 ≤ a0 ∧ a0 ≤ 2147483647
    · simp only [c, and_self, if_true]
      cases b <;> rfl
    · simp [c]
  · unfold beaconref15_may.f
    rw [number15]
    simp only [Option.bind_some, hm2]
    by_cases c : cid a0 = 0
    · simp [c]
    · simp [c]
  · intro he
    by_cases c : cid a0 = 0
    · rw [if_pos c] at he
      refine ⟨c, h3 ?_⟩
      cases b with
      | true => rfl
      | false => cases he
    · rw [if_neg c] at he
      omega
theorem entries_at (l : List S58) (hl : (l.length : Int) ≤ 2932031007317) : ∀ n i m : Nat, i + n = l.length → beaconref15_Entries.l0 (m + n + 1) l (l.take i) i = some l := by
  intro n
  induction n with
  | zero =>
    intro i m hi
    rw [beaconref15_Entries.l0, if_neg (by omega), List.take_of_length_le (by omega)]
  | succ n ih =>
    intro i m hi
    have hlt : i < l.length := by omega
    have hx : rd_T58 l i = l[i] := by simp [rd_T58, List.getD_eq_getElem?_getD, hlt]
    have ht : l.take i ++ [l[i]] = l.take (i + 1) := by
      rw [List.take_add_one, List.getElem?_eq_getElem hlt]
      rfl
    rw [show m + (n + 1) + 1 = (m + n + 1) + 1 by omega, beaconref15_Entries.l0, if_pos (by omega), if_pos (by omega), if_pos (by rw [List.length_take]; omega), hx, wrap_id (by omega) (by omega)]
    have := ih (i + 1) m (by omega)
    rw [← ht] at this
    exact this
theorem inf_at (k : Nat) : math_Inf.f (k + 1) 1 = some 9218868437227405312 := rfl
theorem evf_eq {α : Type} {f : Nat → Option α} (hm : ∀ k, LeO (f k) (f (k + 1))) {K : Nat} {r : α} (h : f K = some r) : evf f = some r := by
  have up : ∀ j a, f a = f a → ∀ x, f a = some x → f (a + j) = some x := by
    intro j
    induction j with
    | zero => intro a _ x h; exact h
    | succ j ih => intro a e x h; exact hm (a + j) x (ih a e x h)
  unfold evf
  have hx : ∃ r, ∃ k, f k = some r := ⟨r, K, h⟩
  rw [dif_pos hx]
  obtain ⟨k, hk⟩ := Classical.choose_spec hx
  have e1 := up K k rfl _ hk
  have e2 := up k K rfl _ h
  rw [Nat.add_comm] at e2
  rw [e1] at e2
  exact e2
theorem awake_true : beaconlaw15_awake.f = some true := by
  have hc : (evf fun k => landdv_Check.f k 1 [⟨2, 4609434218613702656, [⟨7, 1, 4613937818241073152, 0, 0⟩]⟩]) = some 0 := evf_eq (fun k => landdv_Check.mono _ _ k) (K := 40) (by kernel_rfl)
  have hl : metric_Limit.f 4621819117588971520 = some 0 := by kernel_rfl
  have hs : [(⟨2, 4609434218613702656, [⟨7, 1, 4613937818241073152, 0, 0⟩]⟩ : S54)].foldlM (markHeard 1 4621819117588971520) [] = some [(7, ⟨7, 1, 4616752568008179712, 2, 0, 0⟩)] := by kernel_rfl
  have hm : landdv_Marks.f 1 [⟨2, 4609434218613702656, [⟨7, 1, 4613937818241073152, 0, 0⟩]⟩] 4621819117588971520 = some ([⟨7, 1, 4616752568008179712, 2, 0, 0⟩], 0) := by
    unfold landdv_Marks.f
    rw [hc]
    simp only [Option.bind_some]
    rw [if_neg (by simp), hl]
    simp only [Option.bind_some]
    rw [if_neg (by simp), if_pos (by simp), hs]
    rfl
  unfold beaconlaw15_awake.f
  rw [hm]
  simp only [Option.bind_some]
  rfl
end Go.Proofs.Ytjkhckbfkinheaa.GAa

set_option linter.unusedVariables false
set_option linter.unusedSimpArgs false
namespace Go.Proofs.Ytjkhckbfkinheaa.GAa
open Go Go.RowKit Go.Proofs.YtjkhckbfkinheaaW.PrintWords Go.Proofs.YtjkhckbfkinheaaW.PrintLast Go.Proofs.YtjkhckbfkinheaaW.PrintMore
open Go.Proofs.YtjkhckbfkinheaaW
theorem home_loops (l : List S58) : ∀ (k : Nat) (i a h : Int) (q : Nat), landdv_Home.l0 k l l.length i a h q = beaconref15_Home.l0 k l i a h q
  | 0, i, a, h, q => rfl
  | k + 1, i, a, h, q => by
    rw [landdv_Home.l0, beaconref15_Home.l0]
    by_cases c1 : i < l.length
    · by_cases c2 : 0 ≤ i
      · simp only [c1, c2, if_true, home_loops l k]
      · simp only [c1, c2, if_true, if_false]
    · simp only [c1, if_false]
theorem home_ends (l : List S58) (hl : (l.length : Int) ≤ 2932031007317) : ∀ (n i : Nat) (a h : Int) (q : Nat), i + n = l.length → ∃ r, ∀ m, beaconref15_Home.l0 (m + n + 1) l i a h q = some r := by
  intro n
  induction n with
  | zero =>
    intro i a h q hi
    exact ⟨_, fun m => by rw [beaconref15_Home.l0, if_neg (by omega)]⟩
  | succ n ih =>
    intro i a h q hi
    by_cases c : fLt (rd_T58 l i).f2 q = true
    · obtain ⟨r, hr⟩ := ih (i + 1) a (rd_T58 l i).f0 (rd_T58 l i).f2 (by omega)
      refine ⟨r, fun m => ?_⟩
      rw [show m + (n + 1) + 1 = (m + n + 1) + 1 by omega, beaconref15_Home.l0, if_pos (by omega), if_pos (by omega), if_pos c, wrap_id (by omega) (by omega)]
      exact hr m
    · obtain ⟨r, hr⟩ := ih (i + 1) a h q (by omega)
      refine ⟨r, fun m => ?_⟩
      rw [show m + (n + 1) + 1 = (m + n + 1) + 1 by omega, beaconref15_Home.l0, if_pos (by omega), if_pos (by omega), if_neg c, wrap_id (by omega) (by omega)]
      exact hr m
theorem homes_same (k : Nat) (x : S34) : beaconref09_SameHomes.f (k + 4) [x] [x] = some true := by
  unfold beaconref09_SameHomes.f
  have hr : rd_T34 [x] 0 = x := rfl
  have hw : wrap64 (0 + 1) = 1 := wrap_id (by omega) (by omega)
  rw [if_pos rfl, show k + 4 = k + 3 + 1 from rfl, beaconref09_SameHomes.l0, if_pos (by simp), if_pos (by omega), if_pos (by simp), hr, if_pos rfl, if_pos rfl]
  unfold beaconref01_Same.f
  simp only [beq_self_eq_true, Option.bind_some, Bool.not_true]
  rw [show k + 3 = k + 2 + 1 from rfl, beaconref09_SameHomes.j1, if_neg (by simp), hw, show k + 2 = k + 1 + 1 from rfl, beaconref09_SameHomes.l0, if_neg (by simp)]
theorem both_homes (a0 : Int) (a1 : Bool) (l : List S58) (hl : l.length ≤ 2932031007317) (hd : ∀ x ∈ l, x.f2 < 18446744073709551616) (k : Nat) (hk : 5 * l.length + 20 ≤ k) :
    ∃ r, landdv_Home.f k a0 a1 l = some r ∧ beaconref15_Home.f k a0 a1 l = some r := by
  obtain ⟨e, hA, hB, _⟩ := asked_both a0 l hl hd k hk
  obtain ⟨k', rfl⟩ : ∃ k', k = k' + 1 := ⟨k - 1, by omega⟩
  unfold landdv_Home.f beaconref15_Home.f
  rw [hA, hB]
  simp only [Option.bind_some, inf_at, home_loops]
  by_cases c : e = 0
  · simp only [c, if_true]
    cases a1 with
    | true => exact ⟨_, rfl, rfl⟩
    | false =>
      obtain ⟨r, hr⟩ := home_ends l (by omega) l.length 0 a0 0 9218868437227405312 (by omega)
      have := hr (k' - l.length)
      rw [show k' - l.length + l.length + 1 = k' + 1 by omega] at this
      exact ⟨r, this, this⟩
  · simp only [c, if_false]
    exact ⟨_, rfl, rfl⟩
/-- **LanddvHomes, as printed, comes to true.** -/
theorem homes_true (a0 : Int) (a1 : Bool) (l : List S58) (hl : l.length ≤ 2932031007317) (hd : ∀ x ∈ l, x.f2 < 18446744073709551616) : ∃ k, beaconlaw15_LanddvHomes.f k a0 a1 l = some true := by
  obtain ⟨r, h1, h2⟩ := both_homes a0 a1 l hl hd (5 * l.length + 24) (by omega)
  have he : beaconref15_Entries.f (5 * l.length + 24) l = some l := by
    unfold beaconref15_Entries.f
    have := entries_at l (by omega) l.length 0 (4 * l.length + 23) (by omega)
    rw [show 4 * l.length + 23 + l.length + 1 = 5 * l.length + 24 by omega] at this
    exact this
  refine ⟨5 * l.length + 24, ?_⟩
  unfold beaconlaw15_LanddvHomes.f
  rw [he]
  simp only [Option.bind_some, h1, h2, if_true]
  rw [show 5 * l.length + 24 = (5 * l.length + 20) + 4 by omega, homes_same]
  simp only [Option.bind_some, if_true, awake_true]
end Go.Proofs.Ytjkhckbfkinheaa.GAa

namespace Go.Proofs.Ytjkhckbfkinheaa.landdvHomes
open Go.ChangeShapes Go.WideShapes Go.ChangeAt Go.RowKit Go.Proofs.YtjkhckbfkinheaaW.PrintWords Go.Proofs.Ytjkhckbfkinheaa.GAa
set_option linter.unusedVariables false
theorem own : ownKnob Try.prog.godebug = none := by kernel_rfl
theorem laidOut : laidOutB Try.prog = true := by kernel_rfl
section
variable {H : Type} {enc : TypeId × Value → H} {w : World}
set_option maxRecDepth 100000 in
/-- An entry's cells. -/
theorem entry_of (n : Nat) (cs : List Value) (x : DataW H × List MemPlace) (hl : cs.length = 6) (h : DataW.trod enc Try.prog w 0 (fun _ => true) true n 58 cs = some x) : ∃ p : S58, k58.K w p cs ∧ p.f2 < 18446744073709551616 := by
  obtain ⟨ys, m, _, _, _, hyl, hf⟩ := DataW.trod_struct Try.underlying58 h
  match cs, hl with
  | [c0, c1, c2, c3, c4, c5], _ =>
    match ys, hyl with
    | [y0, y1, y2, y3, y4, y5], _ =>
      have h0 := hf 0 _ rfl
      have h1 := hf 1 _ rfl
      have h2 := hf 2 _ rfl
      have h3 := hf 3 _ rfl
      have h4 := hf 4 _ rfl
      have h5 := hf 5 _ rfl
      obtain ⟨n0, e0, _, _⟩ := DataW.trod_int Try.underlying3 h0
      obtain ⟨n1, e1, _, _⟩ := DataW.trod_int Try.underlying3 h1
      obtain ⟨n2, e2, _, w2⟩ := trod_float Try.underlying23 h2
      obtain ⟨n3, e3, _, _⟩ := DataW.trod_int Try.underlying3 h3
      obtain ⟨n4, e4, _, _⟩ := trod_float Try.underlying23 h4
      obtain ⟨n5, e5, _, _⟩ := DataW.trod_int Try.underlying3 h5
      have k : Try.prog.cellsOf 3 = 1 := by kernel_rfl
      have kf : Try.prog.cellsOf 23 = 1 := by kernel_rfl
      simp [k, kf] at e0 e1 e2 e3 e4 e5
      subst e0 e1 e2 e3 e4 e5
      exact ⟨⟨n0, n1, n2, n3, n4, n5⟩, k58_mk w ⟨n0, n1, n2, n3, n4, n5⟩, float_small w2⟩
end
set_option maxRecDepth 100000 in
theorem lifted (os : Os) (started : os.Started) (H : Type) (enc : TypeId × Value → H) :
    ReturnsInHanded {} Try.checked os 7 .any (Rows.landdvHomesSpec.pre6 enc Try.prog Try.f7 Rows.landdvHomesRow.domain false) (Rows.landdvHomesSpec.post enc Try.prog Try.f7 false true false false) := by
  refine returnsInHanded_of_change_sized (C := Try.checked) own started (by kernel_rfl) Try.func7
    (ChangeSpec.witness6 (enc := enc) (C := Try.checked) false ⟨#[], #[.int .i64 0, .bool false, .slice none 0 0], []⟩ 8 (by kernel_rfl) (by kernel_rfl) (by kernel_rfl) (by kernel_rfl)) ?_
  intro W base args ds gs before hval0 hW hcnd hsz0 _
  have hsz : (DataW.weightsEach Try.prog (Try.f7.params.toList ++ Rows.landdvHomesSpec.plain.varTypes Try.prog) (ds ++ gs)).all (· ≤ reachBytes) = true := hsz0
  have hval : ∀ (j : Nat) t v, Try.f7.params[j]? = some t → args[j]? = some v → Value.okWide Try.prog W .any base t v := hval0
  have hW' := hW
  obtain ⟨p, q, hA0, hV, rfl, hfz, hnd⟩ := hW
  have hA : DataW.TrodAll enc Try.prog W 0 (fun _ => true) true Try.f7.params.toList args.toList ds p := hA0
  rw [Try.params7] at hA hval hsz
  obtain ⟨v0, vs0, d0, ds0, p0, q0, hargs, rfl, rfl, h0, r0⟩ := trodAll_cons hA
  obtain ⟨v1, vs1, d1, ds1, p1, q1, rfl, rfl, rfl, h1, r1⟩ := trodAll_cons r0
  obtain ⟨v2, vs2, d2, ds2, p2, q2, rfl, rfl, rfl, h2, r2⟩ := trodAll_cons r1
  obtain ⟨rfl, rfl, rfl⟩ := trodAll_nil r2
  obtain rfl : args = #[v0, v1, v2] := by cases args; simp_all
  obtain ⟨rfl, rfl⟩ := trodVars_none hV
  obtain ⟨a0, rfl, rfl, rfl, w0⟩ := open_int Try.underlying3 (hval 0 3 v0 rfl rfl) h0
  obtain ⟨a1, rfl, rfl, rfl⟩ := open_bool Try.underlying4 (hval 1 4 v1 rfl rfl) h1
  obtain ⟨A2, len2, cap2, rfl⟩ := okWide_slice Try.underlying24 (hval 2 24 v2 rfl rfl)
  have k2 := h2
  have lt2 : ∀ x ∈ p2, x.block < W.heap.size := by obtain ⟨m, hm⟩ := k2; exact DataW.trod_lt m _ _ _ hm
  obtain ⟨xs, hC, hcap, hQ, hlen⟩ := open_rows (k58.K W) (fun x => x.f2 < 18446744073709551616) Try.underlying24 (size := 6) (B := 48) (by kernel_rfl) (by kernel_rfl) (fun n cs x hl h => entry_of n cs x hl h) hsz (j := 2) rfl rfl h2
  obtain rfl : len2 = xs.length := hC.1.symm
  obtain ⟨k, hk⟩ := homes_true a0 a1 xs (by omega) hQ
  clear hA0 hval0 hsz0 hsz
  refine (beaconlaw15_LanddvHomes.calls k a0 a1 A2 cap2 xs true W hC hcap hk).mono fun e W' ⟨he, bel⟩ => ?_
  subst he
  exact ⟨_, rfl, _, _, _, [], _, [], hW', trodAll_mk1 (shut_bool Try.underlying4 _), (trodAll_cons_mk (shut_int Try.underlying3 w0) (trodAll_cons_mk (shut_bool Try.underlying4 _) (trodAll_cons_mk (Below.trod laidOut (by kernel_rfl) (of_decide_eq_true (by kernel_rfl)) k2 bel lt2) trodAll_mk0))), rfl, bel.frame _, fun h => by cases h⟩
theorem over : Rows.landdvHomesRow.holds Try.pinned (OpenSpec.ofChange Rows.landdvHomesSpec) :=
  OpenClaim.holds_of_wide 7 Try.f7 rfl rfl rfl rfl rfl rfl rfl ⟨rfl, rfl, rfl, rfl, rfl⟩ rfl rfl rfl rfl rfl (by kernel_rfl) Try.func7 (by kernel_rfl)
    (of_decide_eq_true (by kernel_rfl)) (by unfold Func.isWrapper; first | (rw [if_pos (by decide +kernel)]; kernel_rfl) | (rw [if_neg (by decide +kernel)]; exact ⟨rfl, rfl⟩))
    (fun os started H enc _ => lifted os started H enc)
theorem proved : Rows.LanddvHomesSaid := over
#print axioms proved
end Go.Proofs.Ytjkhckbfkinheaa.landdvHomes
namespace Go.Proofs.Ytjkhckbfkinheaa
/-- The row, under a short name, for the claim. -/
theorem landdvHomes_holds : Rows.LanddvHomesSaid := landdvHomes.proved
end Go.Proofs.Ytjkhckbfkinheaa
