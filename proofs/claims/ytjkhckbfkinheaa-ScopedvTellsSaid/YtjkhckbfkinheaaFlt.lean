/- Floats as bits (Nat) for the printed texts: orders, sums, products, quotients, truncation; what the three functions without a body give. -/
import Derived.Test.YtjkhckbfkinheaaProg
import Derived.Test.YtjkhckbfkinheaaWWords
import Derived.Test.YtjkhckbfkinheaaWFoot
import Derived.Test.YtjkhckbfkinheaaWTab
import Derived.Laws.FloatArith
import Derived.Laws.Externs
import Derived.KernelRfl
set_option linter.unusedVariables false
namespace Go.Proofs.YtjkhckbfkinheaaW.PrintWords
open Go.RowKit

/-- The order of floats, equality, and 'less or equal'; false where one is a NaN. -/
def fLt (a b : Nat) : Bool := FloatKind.f64.format.order a b == some .lt
def fEq (a b : Nat) : Bool := FloatKind.f64.format.order a b == some .eq
def fLe (a b : Nat) : Bool := FloatKind.f64.format.order a b == some .lt || FloatKind.f64.format.order a b == some .eq
def fAdd (a b : Nat) : Nat := (FloatKind.f64.format.add a b).getD 0
def fAddOk (a b : Nat) : Bool := (FloatKind.f64.format.add a b).isSome
def fSub (a b : Nat) : Nat := (FloatKind.f64.format.sub a b).getD 0
def fSubOk (a b : Nat) : Bool := (FloatKind.f64.format.sub a b).isSome
def fMul (a b : Nat) : Nat := (FloatKind.f64.format.mul a b).getD 0
def fMulOk (a b : Nat) : Bool := (FloatKind.f64.format.mul a b).isSome
def fDiv (a b : Nat) : Nat := (FloatKind.f64.format.div a b).getD 0
def fDivOk (a b : Nat) : Bool := (FloatKind.f64.format.div a b).isSome
def fNeg (a : Nat) : Nat := Op.negFloat .f64 a
def fTrunc (a : Nat) : Nat := FloatKind.f64.encode ((FloatKind.f64.decode a).integral .zero)
def fTruncOk (a : Nat) : Bool := !(FloatKind.f64.decode a).isNaN
def fOfInt (n : Int) : Nat := floatOfInt .f64 n
def fToInt (k : IntKind) (a : Nat) : Int := (floatToIntVal .f64 a k).getD 0
def fToIntOk (k : IntKind) (a : Nat) : Bool := (floatToIntVal .f64 a k).isSome

namespace Kd
def flt : Kd Nat := scalar (Value.float .f64) (fun _ => rfl)
end Kd

section
variable (t : TypeId) (a b : Nat)
theorem binOp_flss : binOp .lss t (.float .f64 a) (.float .f64 b) = pure (.bool (fLt a b)) := binOp_float_cmp_lss t .f64 a b
theorem order_swap (x y : Ieee.Datum) : x.order y = (y.order x).map Ordering.swap := by
  cases x with
  | nan s t => cases y <;> rfl
  | infinity s =>
    cases y with
    | nan => rfl
    | infinity t => cases s <;> cases t <;> rfl
    | number t n j => cases s <;> rfl
  | number s m i =>
    cases y with
    | nan => rfl
    | infinity t => cases t <;> rfl
    | number t n j =>
      simp only [Ieee.Datum.order, Option.map_some]
      rw [Int.min_comm i j]
      congr 1
      exact (Std.OrientedCmp.eq_swap (cmp := (compare : Int → Int → Ordering)))
theorem swap_lt (o : Option Ordering) : (o.map Ordering.swap == some .gt) = (o == some .lt) := by
  cases o with
  | none => rfl
  | some x => cases x <;> rfl
theorem swap_eq (o : Option Ordering) : (o.map Ordering.swap == some .eq) = (o == some .eq) := by
  cases o with
  | none => rfl
  | some x => cases x <;> rfl
theorem fgt_lt : (FloatKind.f64.format.order a b == some .gt) = fLt b a := by
  unfold fLt Ieee.Format.order
  rw [order_swap, swap_lt]
theorem feq_comm : fEq a b = fEq b a := by
  unfold fEq Ieee.Format.order
  rw [order_swap, swap_eq]
theorem binOp_fgtr : binOp .gtr t (.float .f64 a) (.float .f64 b) = pure (.bool (fLt b a)) := by rw [binOp_float_cmp_gtr, fgt_lt]
theorem binOp_fleq : binOp .leq t (.float .f64 a) (.float .f64 b) = pure (.bool (fLe a b)) := binOp_float_cmp_leq t .f64 a b
theorem binOp_fgeq : binOp .geq t (.float .f64 a) (.float .f64 b) = pure (.bool (fLe b a)) := by
  rw [binOp_float_cmp_geq, fgt_lt]
  have h := feq_comm a b
  unfold fEq at h
  rw [h]
  rfl
theorem run_feqIn {P : Program} (w : World) (d : Nat) (t : TypeId) (k' : FloatKind) (a b : Nat) (h : P.underlying t = some (.float k')) : (Op.equalIn (d + 1) t (.float .f64 a) (.float .f64 b)).run P w = .ok (fEq a b) w := by
  simp [Op.equalIn, run_underlying h, Op.floatEq, fEq]
theorem binOp_feql : binOp .eql t (.float .f64 a) (.float .f64 b) = pure (.bool (fEq a b)) := binOp_float_cmp_eql t .f64 a b
theorem binOp_fneq : binOp .neq t (.float .f64 a) (.float .f64 b) = pure (.bool (!fEq a b)) := binOp_float_cmp_neq t .f64 a b
end
section
variable {P : Program} (w : World) (t : TypeId) {a b : Nat}
theorem some_getD {α : Type} {o : Option α} {d : α} (h : o.isSome = true) : o = some (o.getD d) := by
  cases o with
  | none => cases h
  | some x => rfl
theorem run_fadd (h : fAddOk a b = true) : (binOp .add t (.float .f64 a) (.float .f64 b)).run P w = .ok (.float .f64 (fAdd a b)) w := run_float_arith w .add t .f64 a b _ (some_getD h)
theorem run_fsub (h : fSubOk a b = true) : (binOp .sub t (.float .f64 a) (.float .f64 b)).run P w = .ok (.float .f64 (fSub a b)) w := run_float_arith w .sub t .f64 a b _ (some_getD h)
theorem run_fmul (h : fMulOk a b = true) : (binOp .mul t (.float .f64 a) (.float .f64 b)).run P w = .ok (.float .f64 (fMul a b)) w := run_float_arith w .mul t .f64 a b _ (some_getD h)
theorem run_fquo (h : fDivOk a b = true) : (binOp .quo t (.float .f64 a) (.float .f64 b)).run P w = .ok (.float .f64 (fDiv a b)) w := run_float_arith w .quo t .f64 a b _ (some_getD h)
theorem run_ftoint (src dst : TypeId) (k : IntKind) (hs : (P.underlying src).isSome = true) (hd : P.underlying dst = some (.int k)) (h : fToIntOk k a = true) :
    (convert src dst (.float .f64 a)).run P w = .ok (.int k (fToInt k a)) w := run_convert_float_int w src dst .f64 k a _ hs hd (some_getD h)
theorem run_fofint (src dst : TypeId) (q : IntKind) (n : Int) (hs : (P.underlying src).isSome = true) (hd : P.underlying dst = some (.float .f64)) :
    (convert src dst (.int q n)).run P w = .ok (.float .f64 (fOfInt n)) w := run_convert_int_float w src dst q .f64 n hs hd
@[go_sem] theorem run_store_float {m : Mode} (p : Addr) (k : FloatKind) (b : Nat) : (store p (.float k b) m).run P w = stored P w p (.float k b) m := run_store P w p _ m rfl
theorem unary_fneg : Op.unary .neg (.float .f64 a) = pure (.float .f64 (fNeg a)) := rfl
end
section
variable (w : World) (a : Nat) (n : Int)
theorem ext_bits : (callFunc 39 #[.float .f64 a]).run Try.prog w = .ok (.value (.int .u64 (a : Int))) w := by
  rw [run_callFunc_extern (e := Extern.MathFloatBits.float64bits) (fn := Try.f39) Try.func39 (by kernel_rfl) (by kernel_rfl) (by kernel_rfl) (by kernel_rfl)]
  rfl
theorem ext_frombits : (callFunc 72 #[.int .u64 n]).run Try.prog w = .ok (.value (.float .f64 n.toNat)) w := by
  rw [run_callFunc_extern (e := Extern.MathFloatBits.float64frombits) (fn := Try.f72) Try.func72 (by kernel_rfl) (by kernel_rfl) (by kernel_rfl) (by kernel_rfl)]
  rfl
theorem run_trunc (h : fTruncOk a = true) : (Extern.MathFloor.toIntegral "math.archTrunc" .zero #[.float .f64 a]).run Try.prog w = .ok (.float .f64 (fTrunc a)) w := by
  unfold fTruncOk at h
  unfold fTrunc
  change Sem.run Try.prog ((match FloatKind.f64.decode a with
    | .nan s t =>
      if FloatKind.f64.format.quiet t = t then pure (Value.float .f64 a) else do
      let kept ← choose (.extern "math.Floor,Ceil,Trunc,RoundToEven.signallingNaN kept" 2)
      pure (Value.float .f64 (if kept == 1 then a else FloatKind.f64.encode (.nan s (FloatKind.f64.format.quiet t))))
    | d => pure (Value.float .f64 (FloatKind.f64.encode (d.integral .zero)))) : Sem Value) w = _
  cases hd : FloatKind.f64.decode a with
  | nan s t => rw [hd] at h; cases h
  | infinity s => rfl
  | number s m e => rfl
theorem ext_trunc (h : fTruncOk a = true) : (callFunc 118 #[.float .f64 a]).run Try.prog w = .ok (.value (.float .f64 (fTrunc a))) w := by
  rw [run_callFunc_extern (e := Extern.MathFloor.toIntegral "math.archTrunc" .zero) (fn := Try.f118) Try.func118 (by kernel_rfl) (by kernel_rfl) (by kernel_rfl) (by kernel_rfl)]
  rw [run_trunc w a h]
  rfl
end

/-! Short words for the printed steps. -/
/-- n marks, those of m's binary digits set. -/
def bz (n m : Nat) : Array Bool := ((List.range n).map fun i => m.testBit i).toArray
section
variable {α : Type} (l : List α) (i : Nat) (a b : α)
theorem qa : l.toArray.setIfInBounds i a = (l.set i a).toArray := by simp
theorem qb : (a :: l).set 0 b = b :: l := rfl
theorem qc : (a :: l).set (i + 1) b = a :: l.set i b := rfl
end
theorem cz3 {w : World} {g : Nat} {t : TypeId} {x0 x1 x2 : Value} (h : w.heap[g]? = some (.cells #[x0, x1, x2] t (0, 0))) : w.cell? ⟨g, 0, none⟩ = some x0 ∧ w.cell? ⟨g, 1, none⟩ = some x1 ∧ w.cell? ⟨g, 2, none⟩ = some x2 ∧ w.frozen? ⟨g, 0, none⟩ = false ∧ w.frozen? ⟨g, 1, none⟩ = false ∧ w.frozen? ⟨g, 2, none⟩ = false := ⟨(blk_cell h 0).trans rfl, (blk_cell h 1).trans rfl, (blk_cell h 2).trans rfl, blk_frozen h 0, blk_frozen h 1, blk_frozen h 2⟩
theorem cz5 {w : World} {g : Nat} {t : TypeId} {x0 x1 x2 x3 x4 : Value} (h : w.heap[g]? = some (.cells #[x0, x1, x2, x3, x4] t (0, 0))) : w.cell? ⟨g, 0, none⟩ = some x0 ∧ w.cell? ⟨g, 1, none⟩ = some x1 ∧ w.cell? ⟨g, 2, none⟩ = some x2 ∧ w.cell? ⟨g, 3, none⟩ = some x3 ∧ w.cell? ⟨g, 4, none⟩ = some x4 ∧ w.frozen? ⟨g, 0, none⟩ = false ∧ w.frozen? ⟨g, 1, none⟩ = false ∧ w.frozen? ⟨g, 2, none⟩ = false ∧ w.frozen? ⟨g, 3, none⟩ = false ∧ w.frozen? ⟨g, 4, none⟩ = false := ⟨(blk_cell h 0).trans rfl, (blk_cell h 1).trans rfl, (blk_cell h 2).trans rfl, (blk_cell h 3).trans rfl, (blk_cell h 4).trans rfl, blk_frozen h 0, blk_frozen h 1, blk_frozen h 2, blk_frozen h 3, blk_frozen h 4⟩
theorem cz6 {w : World} {g : Nat} {t : TypeId} {x0 x1 x2 x3 x4 x5 : Value} (h : w.heap[g]? = some (.cells #[x0, x1, x2, x3, x4, x5] t (0, 0))) : w.cell? ⟨g, 0, none⟩ = some x0 ∧ w.cell? ⟨g, 1, none⟩ = some x1 ∧ w.cell? ⟨g, 2, none⟩ = some x2 ∧ w.cell? ⟨g, 3, none⟩ = some x3 ∧ w.cell? ⟨g, 4, none⟩ = some x4 ∧ w.cell? ⟨g, 5, none⟩ = some x5 ∧ w.frozen? ⟨g, 0, none⟩ = false ∧ w.frozen? ⟨g, 1, none⟩ = false ∧ w.frozen? ⟨g, 2, none⟩ = false ∧ w.frozen? ⟨g, 3, none⟩ = false ∧ w.frozen? ⟨g, 4, none⟩ = false ∧ w.frozen? ⟨g, 5, none⟩ = false := ⟨(blk_cell h 0).trans rfl, (blk_cell h 1).trans rfl, (blk_cell h 2).trans rfl, (blk_cell h 3).trans rfl, (blk_cell h 4).trans rfl, (blk_cell h 5).trans rfl, blk_frozen h 0, blk_frozen h 1, blk_frozen h 2, blk_frozen h 3, blk_frozen h 4, blk_frozen h 5⟩
theorem cz12 {w : World} {g : Nat} {t : TypeId} {x0 x1 x2 x3 x4 x5 x6 x7 x8 x9 x10 x11 : Value} (h : w.heap[g]? = some (.cells #[x0, x1, x2, x3, x4, x5, x6, x7, x8, x9, x10, x11] t (0, 0))) : w.cell? ⟨g, 0, none⟩ = some x0 ∧ w.cell? ⟨g, 1, none⟩ = some x1 ∧ w.cell? ⟨g, 2, none⟩ = some x2 ∧ w.cell? ⟨g, 3, none⟩ = some x3 ∧ w.cell? ⟨g, 4, none⟩ = some x4 ∧ w.cell? ⟨g, 5, none⟩ = some x5 ∧ w.cell? ⟨g, 6, none⟩ = some x6 ∧ w.cell? ⟨g, 7, none⟩ = some x7 ∧ w.cell? ⟨g, 8, none⟩ = some x8 ∧ w.cell? ⟨g, 9, none⟩ = some x9 ∧ w.cell? ⟨g, 10, none⟩ = some x10 ∧ w.cell? ⟨g, 11, none⟩ = some x11 ∧ w.frozen? ⟨g, 0, none⟩ = false ∧ w.frozen? ⟨g, 1, none⟩ = false ∧ w.frozen? ⟨g, 2, none⟩ = false ∧ w.frozen? ⟨g, 3, none⟩ = false ∧ w.frozen? ⟨g, 4, none⟩ = false ∧ w.frozen? ⟨g, 5, none⟩ = false ∧ w.frozen? ⟨g, 6, none⟩ = false ∧ w.frozen? ⟨g, 7, none⟩ = false ∧ w.frozen? ⟨g, 8, none⟩ = false ∧ w.frozen? ⟨g, 9, none⟩ = false ∧ w.frozen? ⟨g, 10, none⟩ = false ∧ w.frozen? ⟨g, 11, none⟩ = false := ⟨(blk_cell h 0).trans rfl, (blk_cell h 1).trans rfl, (blk_cell h 2).trans rfl, (blk_cell h 3).trans rfl, (blk_cell h 4).trans rfl, (blk_cell h 5).trans rfl, (blk_cell h 6).trans rfl, (blk_cell h 7).trans rfl, (blk_cell h 8).trans rfl, (blk_cell h 9).trans rfl, (blk_cell h 10).trans rfl, (blk_cell h 11).trans rfl, blk_frozen h 0, blk_frozen h 1, blk_frozen h 2, blk_frozen h 3, blk_frozen h 4, blk_frozen h 5, blk_frozen h 6, blk_frozen h 7, blk_frozen h 8, blk_frozen h 9, blk_frozen h 10, blk_frozen h 11⟩
theorem cz17 {w : World} {g : Nat} {t : TypeId} {x0 x1 x2 x3 x4 x5 x6 x7 x8 x9 x10 x11 x12 x13 x14 x15 x16 : Value} (h : w.heap[g]? = some (.cells #[x0, x1, x2, x3, x4, x5, x6, x7, x8, x9, x10, x11, x12, x13, x14, x15, x16] t (0, 0))) : w.cell? ⟨g, 0, none⟩ = some x0 ∧ w.cell? ⟨g, 1, none⟩ = some x1 ∧ w.cell? ⟨g, 2, none⟩ = some x2 ∧ w.cell? ⟨g, 3, none⟩ = some x3 ∧ w.cell? ⟨g, 4, none⟩ = some x4 ∧ w.cell? ⟨g, 5, none⟩ = some x5 ∧ w.cell? ⟨g, 6, none⟩ = some x6 ∧ w.cell? ⟨g, 7, none⟩ = some x7 ∧ w.cell? ⟨g, 8, none⟩ = some x8 ∧ w.cell? ⟨g, 9, none⟩ = some x9 ∧ w.cell? ⟨g, 10, none⟩ = some x10 ∧ w.cell? ⟨g, 11, none⟩ = some x11 ∧ w.cell? ⟨g, 12, none⟩ = some x12 ∧ w.cell? ⟨g, 13, none⟩ = some x13 ∧ w.cell? ⟨g, 14, none⟩ = some x14 ∧ w.cell? ⟨g, 15, none⟩ = some x15 ∧ w.cell? ⟨g, 16, none⟩ = some x16 ∧ w.frozen? ⟨g, 0, none⟩ = false ∧ w.frozen? ⟨g, 1, none⟩ = false ∧ w.frozen? ⟨g, 2, none⟩ = false ∧ w.frozen? ⟨g, 3, none⟩ = false ∧ w.frozen? ⟨g, 4, none⟩ = false ∧ w.frozen? ⟨g, 5, none⟩ = false ∧ w.frozen? ⟨g, 6, none⟩ = false ∧ w.frozen? ⟨g, 7, none⟩ = false ∧ w.frozen? ⟨g, 8, none⟩ = false ∧ w.frozen? ⟨g, 9, none⟩ = false ∧ w.frozen? ⟨g, 10, none⟩ = false ∧ w.frozen? ⟨g, 11, none⟩ = false ∧ w.frozen? ⟨g, 12, none⟩ = false ∧ w.frozen? ⟨g, 13, none⟩ = false ∧ w.frozen? ⟨g, 14, none⟩ = false ∧ w.frozen? ⟨g, 15, none⟩ = false ∧ w.frozen? ⟨g, 16, none⟩ = false := ⟨(blk_cell h 0).trans rfl, (blk_cell h 1).trans rfl, (blk_cell h 2).trans rfl, (blk_cell h 3).trans rfl, (blk_cell h 4).trans rfl, (blk_cell h 5).trans rfl, (blk_cell h 6).trans rfl, (blk_cell h 7).trans rfl, (blk_cell h 8).trans rfl, (blk_cell h 9).trans rfl, (blk_cell h 10).trans rfl, (blk_cell h 11).trans rfl, (blk_cell h 12).trans rfl, (blk_cell h 13).trans rfl, (blk_cell h 14).trans rfl, (blk_cell h 15).trans rfl, (blk_cell h 16).trans rfl, blk_frozen h 0, blk_frozen h 1, blk_frozen h 2, blk_frozen h 3, blk_frozen h 4, blk_frozen h 5, blk_frozen h 6, blk_frozen h 7, blk_frozen h 8, blk_frozen h 9, blk_frozen h 10, blk_frozen h 11, blk_frozen h 12, blk_frozen h 13, blk_frozen h 14, blk_frozen h 15, blk_frozen h 16⟩
end Go.Proofs.YtjkhckbfkinheaaW.PrintWords
