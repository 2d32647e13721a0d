/- Maps with int keys as lists of pairs by rising keys: look-up, store, what the walk needs at each operation. -/
import Derived.Maps.OwnOps
import Derived.Maps.OwnSet
import Derived.Maps.RangeWalk
import Derived.Maps.Ext
import Derived.WalkKit
import Derived.Deep.Draws
set_option linter.unusedVariables false
namespace Go.Proofs.YtjkhckbfkinheaaW.IMap
open Go.Maps Go.WideElems Go.RowKit

section
variable {α : Type}
def ins (x : Int × α) : List (Int × α) → List (Int × α)
  | [] => [x]
  | y :: r => if x.1 < y.1 then x :: y :: r else y :: ins x r
/-- 'm[k] = x'. -/
def put (k : Int) (x : α) (m : List (Int × α)) : List (Int × α) := ins (k, x) (m.filter fun p => !decide (p.1 = k))
def get (m : List (Int × α)) (k : Int) : Option α := (m.find? fun p => decide (p.1 = k)).map (·.2)
def lit (p : Int × α) : Lit × DataW α := (.int .i64 p.1, .held p.2)
def dat (m : List (Int × α)) : DataW α := .map (m.map lit)
def rdr (dec : Value → Option α) (v : Value) : Option (DataW α × List MemPlace) := (dec v).map fun x => (.held x, [])
/-- Block b of w is a map of at most n entries: those of m. -/
def Own (P : Program) (k : TypeId) (dec : Value → Option α) (w : World) (b n : Nat) (m : List (Int × α)) : Prop := w.ownsMap P k (rdr dec) b n (dat m)

theorem same (a b : Int) : (Lit.int .i64 a).sameKey (.int .i64 b) = decide (a = b) := by simp [Lit.sameKey]
theorem insert_map (x : Int × α) : ∀ m : List (Int × α), DataW.insert (lit x) (m.map lit) = (ins x m).map lit
  | [] => rfl
  | y :: r => by
    simp only [List.map_cons, DataW.insert, ins]
    have e : (lit x).1.before (lit y).1 = decide (x.1 < y.1) := rfl
    rw [e]
    by_cases h : x.1 < y.1
    · simp [h]
    · simp [h, insert_map x r]
theorem dat_put (m : List (Int × α)) (k : Int) (x : α) : (dat m).put (.int .i64 k) (.held x) = dat (put k x m) := by
  show DataW.map (DataW.insert (lit (k, x)) ((m.map lit).filter fun p => !p.1.sameKey (.int .i64 k))) = _
  rw [List.filter_map]
  have e : ((fun p : Lit × DataW α => !p.1.sameKey (.int .i64 k)) ∘ lit) = fun p : Int × α => !decide (p.1 = k) := by
    funext p
    simp [lit, same]
  rw [e, insert_map]
  rfl
theorem dat_has (m : List (Int × α)) (k : Int) : Maps.has (dat m) (.int .i64 k) = (get m k).isSome := by
  show (m.map lit).any (fun p => p.1.sameKey (.int .i64 k)) = _
  unfold get
  induction m with
  | nil => rfl
  | cons y r ih =>
    rw [List.map_cons, List.any_cons, List.find?_cons, ih]
    have e : (lit y).1.sameKey (.int .i64 k) = decide (y.1 = k) := same _ _
    rw [e]
    by_cases h : y.1 = k <;> simp [h]
theorem dat_atKey (m : List (Int × α)) (k : Int) (z : α) : (dat m).atKey (.int .i64 k) (.held z) = .held ((get m k).getD z) := by
  show (match (m.map lit).find? (fun p => p.1.sameKey (.int .i64 k)) with | some p => p.2 | none => DataW.held z) = _
  unfold get
  induction m with
  | nil => rfl
  | cons y r ih =>
    rw [List.map_cons, List.find?_cons, List.find?_cons]
    have e : (lit y).1.sameKey (.int .i64 k) = decide (y.1 = k) := same _ _
    rw [e]
    by_cases h : y.1 = k
    · simp [h, lit]
    · simp only [h, decide_false]
      exact ih

theorem own_made (w : World) (P : Program) (k : TypeId) (dec : Value → Option α) : Own P k dec (w.alloc (.map #[] 0)) w.heap.size 0 [] := World.ownsMap_made w P k _
variable {P : Program} {k : TypeId} {dec : Value → Option α} {enc : α → Value} {w w' : World} {b n : Nat} {m : List (Int × α)}
theorem Own.below (h : Own P k dec w b n m) (hb : Below w.heap.size w w') : Own P k dec w' b n m := by
  have hlt := World.ownsMap.lt h
  obtain ⟨es, clock, hm, F, hs, hD⟩ := h
  exact ⟨es, clock, (hb.block b hlt).trans hm, F, hs, hD⟩
theorem Own.alloc (h : Own P k dec w b n m) (o : Obj) : Own P k dec (w.alloc o) b n m := World.ownsMap.alloc h o
theorem Own.lt (h : Own P k dec w b n m) : b < w.heap.size := World.ownsMap.lt h
theorem Own.len (h : Own P k dec w b n m) : m.length ≤ n := by
  have := World.ownsMap.size_le h
  simpa [Maps.size, dat] using this
theorem Own.rising (h : Own P k dec w b n m) (hk : P.underlying k = some (.int .i64)) : m.Pairwise (fun p q => p.1 < q.1) := by
  obtain ⟨es, he, hp, _⟩ := World.ownsMap.canon h (int_keyed hk)
  have he' : m.map lit = es := by
    injection he
  rw [← he', List.pairwise_map] at hp
  exact hp.imp (fun h => by simpa [lit, Lit.before] using h)
end

/-! ### the operations -/
section
variable {α : Type} {P : Program} (w : World) {ops : Array Oper} {rest : List Oper} {o : Oper} {a : Act} {Q : Exit → Act → World → Prop}
variable {dec : Value → Option α} {enc : α → Value}
theorem wpList_get_ok (hde : ∀ v x, dec v = some x → v = enc x) (z : α) (hdz : dec (enc z) = some z) (hg : o.guard = none) (mo x : Operand) (t k e : TypeId) (hop : o.op = Op.lookup t mo x true)
    (hk : P.underlying k = some (.int .i64)) (ht : P.underlying t = some (.map k e)) (hz : (zeroValue e).run P w = .ok (enc z) w) (b n : Nat) (m : List (Int × α))
    (hm : a.eval mo = .map (some b)) (hown : Own P k dec w b n m) (key : Int) (hwf : (Lit.int .i64 key).wf = true) (hx : a.eval x = .int .i64 key)
    (hK : wpList P ops Q rest (a.put o.dst (.tuple #[enc ((get m key).getD z), .bool (get m key).isSome])) w) :
    wpList P ops Q (o :: rest) a w := by
  refine wpList_lookup_own_ok w hg mo x t hop k e (int_keyed hk) ht (rdr dec) hz (.held z) [] (by simp [rdr, hdz]) b n (dat m) hm hown _ (.int .i64 key) hx (keyOf_int_mk hk hwf) ?_
  intro v ps hv
  rw [dat_atKey] at hv
  unfold rdr at hv
  cases hd : dec v with
  | none => rw [hd] at hv; cases hv
  | some y =>
    rw [hd] at hv
    simp only [Option.map_some, Option.some.injEq, Prod.mk.injEq, DataW.held.injEq] at hv
    rw [hde v y hd, hv.1, dat_has]
    exact hK
theorem wpList_put (hed : ∀ x, dec (enc x) = some x) (hg : o.guard = none) (mo x v : Operand) (t k e : TypeId) (hop : o.op = Op.mapUpdate t mo x v)
    (hk : P.underlying k = some (.int .i64)) (ht : P.underlying t = some (.map k e)) (b n : Nat) (m : List (Int × α))
    (hm : a.eval mo = .map (some b)) (hown : Own P k dec w b n m) (hn : n < maxLen) (key : Int) (hwf : (Lit.int .i64 key).wf = true) (hx : a.eval x = .int .i64 key) (y : α) (hv : a.eval v = enc y)
    (hK : ∀ w', Own P k dec w' b (n + 1) (put key y m) → w.grownBy w' (some b) → wpList P ops Q rest (a.put o.dst undef) w') :
    wpList P ops Q (o :: rest) a w := by
  refine wpList_mapUpdate_own w hg mo x v t hop k e (int_keyed hk) ht (rdr dec) b n (dat m) hm hown hn _ _ (.int .i64 key) hx hv (keyOf_int_mk hk hwf) (.held y) [] (by simp [rdr, hed]) ?_
  intro w' hw' hgr
  rw [dat_put] at hw'
  exact hK w' hw' hgr
end
end Go.Proofs.YtjkhckbfkinheaaW.IMap
