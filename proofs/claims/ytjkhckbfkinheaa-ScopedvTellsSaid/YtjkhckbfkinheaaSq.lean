/- Short words for printed steps: each runs the very steps of the printed line that it stands for. -/
import Derived.Test.YtjkhckbfkinheaaFlt
import Derived.Test.YtjkhckbfkinheaaWMore
set_option linter.unusedVariables false
namespace Go.Proofs.YtjkhckbfkinheaaW.PrintWords
open Go Go.RowKit Go.Proofs.YtjkhckbfkinheaaW.PrintLast Go.Proofs.YtjkhckbfkinheaaW.PrintMore
theorem bs_ {α β : Type} {o : Option α} {f : α → Option β} {r : β} (h : o.bind f = some r) : ∃ a, Aside0 (o = some a) ∧ f a = some r := by
  obtain ⟨a, h1, h2⟩ := Option.bind_eq_some_iff.mp h
  exact ⟨a, ⟨h1⟩, h2⟩
theorem bf_ {b : Bool} (h : ¬ (b = true)) : b = false := Bool.eq_false_iff.mpr h
theorem nf_ : ¬ (false = true) := by decide
theorem oj_ {α : Type} {a b : α} (h : some a = some b) : a = b := Option.some.inj h
theorem be_ {a b : Int} (h : a = b) : (a == b) = true := beq_iff_eq.mpr h
theorem bg_ {a b : Int} (h : a = b) : (a != b) = false := bne_eq_false_iff_eq.mpr h
theorem bh_ {a b : Int} (h : ¬ (a = b)) : (a == b) = false := beq_eq_false_iff_ne.mpr h
theorem bi_ {a b : Int} (h : ¬ (a = b)) : (a != b) = true := bne_iff_ne.mpr h
theorem fz {p : Prop} (h : p := by first | rfl | (simp; done) | (simp [*]; done)) : p := h
theorem fe {p : Prop} (h : p := by first | rfl | (simp [errW_none, errW_some] <;> rfl) | (simp [*, errW_none, errW_some] <;> rfl)) : p := h
theorem fl {p : Prop} (h : p := by first | omega | exact Nat.le_refl _) : p := h
theorem fd {p : Prop} (h : p := by repeat (first | exact Drawn0.refl _ | apply Drawn0.step)) : p := h
theorem fb {p : Prop} (h : p := by repeat (first | (with_reducible first | exact HB.out | apply below_alloc | apply pw_below_drewN | apply below_drew1) | exact HB.out)) : p := h
theorem fb1 {p q : Prop} (GE : Aside0 q) (h : Aside0 q → p := by intro GE; repeat (first | (with_reducible first | exact HB.out | apply below_alloc | apply pw_below_drewN | apply below_drew1 | refine below_set ?_ GE.out) | exact HB.out)) : p := h GE
theorem fb2 {p q q2 : Prop} (GE : Aside0 q) (GE2 : Aside0 q2) (h : Aside0 q → Aside0 q2 → p := by intro GE GE2; repeat (first | (with_reducible first | exact HB.out | apply below_alloc | apply pw_below_drewN | apply below_drew1 | refine below_set ?_ GE.out | refine below_set ?_ GE2.out) | exact HB.out)) : p := h GE GE2
theorem kp {p q : Prop} (h : q) (f : q → p := by intro h_; apply Eq.trans; (focus repeat' (with_reducible first | exact h_ | apply blk_set | apply blk_drewN | apply blk_drew | apply blk_alloc)); rfl) : p := f h
theorem kp1 {p q n : Prop} (NB : Aside0 n) (h : q) (f : Aside0 n → q → p := by intro NB_ h_; apply Eq.trans; (focus repeat' (with_reducible first | exact h_ | apply blk_set | apply blk_drewN | apply blk_drew | apply blk_alloc | apply blk_far _ NB_.out)); rfl) : p := f NB h
section
variable {P : Program} {md : Region.Mode} {ops : Array Oper} {Q : Exit → Act → World → Prop} {S : World → Prop} {ds : List Nat} {T : Bool × List (List Nat × List Nat)} {B : List Nat}
variable {oi : Oper} {v : Value} {fuel : Nat} {l : Array Bool} {a : Act} {w : World}
theorem pu2 (i : Nat) (N : Option Tmp) (l' : Array Bool) {a' : Act} (h : wpAnyLast P md ops Q S ds fuel l' a' w)
    (hT : rtab md ops = T := by exact HT_.out) (hi : ops[i]? = some oi := by rfl) (hN : oi.dst = N := by rfl) (hc : anyT T l.toList l'.toList i = true := by kernel_rfl) (hw : Region.wanted oi (yielded ops a.tmps) = true := by rfl)
    (hy : ∀ w, (execOp a.eval oi).run P w = .ok (.value v) w := by intro w'; go_simp; with_reducible rfl) (ha : a.put N v = a' := by simp only [Act.put, qa, qb, qc, i64_w, i32_w]; rfl)
    (hQ : ∀ c a w, Q (.panic c) (a.put oi.dst v) w → Q (.panic c) a w := by exact fun _ _ _ h => h) :
    wpAnyLast P md ops Q S ds (fuel + 1) l a w := pure_ l' hi hN (any_of hT hc) hQ (.inl ⟨hw, hy⟩) ha h
theorem pz2 (i : Nat) (N : Option Tmp) (l' : Array Bool) {a' : Act} (h : wpAnyLast P md ops Q S ds fuel l' a' w)
    (hT : rtab md ops = T := by exact HT_.out) (hi : ops[i]? = some oi := by rfl) (hN : oi.dst = N := by rfl) (hc : anyT T l.toList l'.toList i = true := by kernel_rfl) (hw : Region.wanted oi (yielded ops a.tmps) = false := by rfl)
    (ha : a.put N undef = a' := by simp only [Act.put, qa, qb, qc, i64_w, i32_w]; rfl) (hQ : ∀ c a w, Q (.panic c) (a.put oi.dst undef) w → Q (.panic c) a w := by exact fun _ _ _ h => h) :
    wpAnyLast P md ops Q S ds (fuel + 1) l a w := pure_ (v := undef) l' hi hN (any_of hT hc) hQ (.inr ⟨hw, rfl⟩) ha h
theorem tk2 (i : Nat) (N : Option Tmp) (l' : Array Bool) {a' : Act} (h : wpAnyLast P md ops Q S ds fuel l' a' w)
    (hT : rtab md ops = T := by exact HT_.out) (hB : waitsOk T.2 B = true := by exact HW_.out) (hS : S w := by exact hHeld) (hi : ops[i]? = some oi := by rfl) (hN : oi.dst = N := by rfl) (hc : takeW T B ds l.toList l'.toList i = true := by kernel_rfl) (hw : Region.wanted oi (yielded ops a.tmps) = true := by rfl)
    (hy : ∀ w, S w → (execOp a.eval oi).run P w = .ok (.value v) w := by intro w' hs; repeat (obtain ⟨hs_, hs⟩ : _ ∧ _ := hs); go_simp; with_reducible rfl) (ha : a.put N v = a' := by simp only [Act.put, qa, qb, qc, i64_w, i32_w]; rfl)
    (hQ : ∀ c a w, Q (.panic c) (a.put oi.dst v) w → Q (.panic c) a w := by exact fun _ _ _ h => h) :
    wpAnyLast P md ops Q S ds (fuel + 1) l a w := take_ l' hi hN (take_ofW hT hB hc) hQ (.inl ⟨hw, hy⟩) hS ha h
end
section
variable {P : Program} {ops : Array Oper} {Q : Exit → Act → World → Prop} {rest : List Oper} {oi : Oper} {a : Act} {w : World}
theorem gl_ (N : Option Tmp) {f : FuncId} {fn : Func} {xs : Array Operand} {ts : Array TypeId} (hf : P.funcs[f]? = some fn) (args : Array Value)
    (h : Calls P f args w fun e w' => ∃ v, e = .returned v ∧ wpList P ops Q rest (a.put N v) w')
    (hd : oi.dst = N := by rfl) (hg : oi.guard = none := by rfl) (hname : (fn.name == "runtime.NumGoroutine") = false := by kernel_rfl) (hb : fn.body.isSome = true := by rfl)
    (hop : oi.op = .call { callee := .value (.func f), args := xs, argTypes := ts } := by rfl) (hargs : xs.map a.eval = args := by (try simp only [List.map_toArray, List.map_cons, List.map_nil]); first | done | rfl | (simp only [List.length_drop, List.length_take]; rfl)) : wpList P ops Q (oi :: rest) a w :=
  goesL_ N hd hg hf hname hb args hop hargs h
theorem bz_ {N : Tmp} (cs : Array Value) (t : TypeId)
    (h : ∀ g, g = w.heap.size → ∀ w1, w1.heap[g]? = some (.cells cs t (0, 0)) → Below w.heap.size w w1 → wpList P ops Q rest (a.put oi.dst (.pointer (some ⟨g, 0, none⟩))) w1)
    (hgd : oi.guard = none := by rfl) (hd : oi.dst = some N := by rfl)
    (hrun : (execOp a.eval oi).run P w = .ok (.value (.pointer (some ⟨w.heap.size, 0, none⟩))) (w.alloc (.cells cs t (0, 0))) := by first | (go_simp; done) | (go_simp; rfl)) : wpList P ops Q (oi :: rest) a w :=
  box_event hgd hd hrun h
/-- A new block of the call's own, told aside. -/
theorem bx_ {W0 : World} {N : Tmp} (cs : Array Value) (t : TypeId) (HB : Aside0 (Below W0.heap.size W0 w))
    (h : ∀ g w1, Aside0 (Below W0.heap.size W0 w1) → Aside0 (w1.heap[g]? = some (.cells cs t (0, 0))) → Aside0 (W0.heap.size ≤ g) → wpList P ops Q rest (a.put oi.dst (.pointer (some ⟨g, 0, none⟩))) w1)
    (hgd : oi.guard = none := by rfl) (hd : oi.dst = some N := by rfl)
    (hrun : (execOp a.eval oi).run P w = .ok (.value (.pointer (some ⟨w.heap.size, 0, none⟩))) (w.alloc (.cells cs t (0, 0))) := by first | (go_simp; done) | (go_simp; rfl)) : wpList P ops Q (oi :: rest) a w :=
  box_event hgd hd hrun fun g hg w1 hbox hb => h g w1 ⟨below_step HB.out hb⟩ ⟨hbox⟩ ⟨by rw [hg]; exact below_size HB.out⟩
end
end Go.Proofs.YtjkhckbfkinheaaW.PrintWords
