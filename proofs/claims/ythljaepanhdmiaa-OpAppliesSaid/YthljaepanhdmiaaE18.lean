/-
  The engine, part 18: what a seat's texts need at their head: functions at hand, keys, numbers that go round.
-/
import Derived.Test.YthljaepanhdmiaaE17
namespace Go.Fx
open Go RowKit

def FnsOk (P : Program) (l : List (FuncId × Func)) : Prop := ∀ p ∈ l, P.funcs[p.1]? = some p.2 ∧ (p.2.name == "runtime.NumGoroutine") = false ∧ p.2.body.isNone = false
theorem FnsOk.nil {P : Program} : FnsOk P [] := fun p hp => by cases hp
theorem FnsOk.cons {P : Program} {n : FuncId} {f : Func} {l : List (FuncId × Func)} (h : P.funcs[n]? = some f) (h1 : (f.name == "runtime.NumGoroutine") = false) (h2 : f.body.isNone = false) (h3 : FnsOk P l) : FnsOk P ((n, f) :: l) := fun p hp => by
  rcases List.mem_cons.1 hp with rfl | hp
  · exact ⟨h, h1, h2⟩
  · exact h3 p hp
def ConOk (P : Program) (l : List (FuncId × Contract)) : Prop := ∀ p ∈ l, Sound P p.1 p.2
theorem ConOk.nil {P : Program} : ConOk P [] := fun p hp => by cases hp
theorem ConOk.cons {P : Program} {n : FuncId} {C : Contract} {l : List (FuncId × Contract)} (h : Sound P n C) (h3 : ConOk P l) : ConOk P ((n, C) :: l) := fun p hp => by
  rcases List.mem_cons.1 hp with rfl | hp
  · exact h
  · exact h3 p hp
theorem Sound.hid {P : Program} {n : FuncId} {C : Contract} (h : Sound P n C) : Sound P n C.hid := h
theorem keyOk_int {P : Program} {k : TypeId} (h : P.underlying k = some (.int .i64)) : KeyOk P k .int := ⟨Maps.int_keyed h, fun x hx => by
  have hx' : (SC.int .i64 ⟨x, kmin .i64, kmax .i64⟩).ok0 := hx _ (List.mem_cons_self ..)
  refine ⟨.int .i64 x, ?_⟩
  show keyOf P k (.int .i64 x) = _
  have hw : (Lit.int .i64 x).wf = true := by
    have h1 : (IntKind.i64).min ≤ (show Int from x) := hx'.1
    have h2 : (show Int from x) ≤ (IntKind.i64).max := hx'.2
    simp only [Lit.wf, Bool.and_eq_true, decide_eq_true_eq]
    exact ⟨h1, h2⟩
  simp [keyOf, mapKey, h, hw], .inl rfl⟩

/-! ### Numbers that go round -/
def w64 (x : Int) : Int := IntKind.i64.wrap x
theorem w64_eq (x : Int) : w64 x = (x + 9223372036854775808) % 18446744073709551616 - 9223372036854775808 := IntKind.wrap_i64 x
theorem w64_dvd (x : Int) : ∃ k, w64 x = x + 18446744073709551616 * k := by
  rw [w64_eq]
  exact ⟨-((x + 9223372036854775808) / 18446744073709551616), by omega⟩
theorem w64_congr {x y : Int} (k : Int) (h : x = y + 18446744073709551616 * k) : w64 x = w64 y := by
  rw [w64_eq, w64_eq]; omega
theorem w64_id {x : Int} (h1 : -9223372036854775808 ≤ x) (h2 : x ≤ 9223372036854775807) : w64 x = x := by
  rw [w64_eq]; omega
theorem w64_w64 (x : Int) : w64 (w64 x) = w64 x := by
  obtain ⟨k, h⟩ := w64_dvd x
  exact w64_congr k h
theorem w64_add_l (x y : Int) : w64 (w64 x + y) = w64 (x + y) := by
  obtain ⟨k, h⟩ := w64_dvd x
  exact w64_congr k (by rw [h]; omega)
theorem w64_add_r (x y : Int) : w64 (x + w64 y) = w64 (x + y) := by
  obtain ⟨k, h⟩ := w64_dvd y
  exact w64_congr k (by rw [h]; omega)
theorem w64_sub_l (x y : Int) : w64 (w64 x - y) = w64 (x - y) := by
  obtain ⟨k, h⟩ := w64_dvd x
  exact w64_congr k (by rw [h]; omega)
theorem w64_sub_r (x y : Int) : w64 (x - w64 y) = w64 (x - y) := by
  obtain ⟨k, h⟩ := w64_dvd y
  exact w64_congr (-k) (by rw [h]; omega)
theorem w64_mul_l (x y : Int) : w64 (w64 x * y) = w64 (x * y) := by
  obtain ⟨k, h⟩ := w64_dvd x
  exact w64_congr (k * y) (by rw [h, Int.add_mul, Int.mul_assoc])
theorem w64_mul_r (x y : Int) : w64 (x * w64 y) = w64 (x * y) := by
  obtain ⟨k, h⟩ := w64_dvd y
  exact w64_congr (x * k) (by rw [h, Int.mul_add, Int.mul_left_comm])
end Go.Fx
