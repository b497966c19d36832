/-
  Lists with room behind them.
-/
import Derived.Test.YtcadkndjcneedaaGreatSc
set_option linter.unusedSimpArgs false
set_option linter.unusedVariables false
set_option linter.unusedSectionVars false
namespace Go.Fx
open Go
section
variable {α : Type}
theorem zmin_self (n : Int) : zmin n n = n := by unfold zmin; split <;> rfl
theorem lsub_all (l : List α) : lsub l 0 (zmin (l.length : Int) (l.length : Int)) = l := by
  rw [zmin_self]
  unfold lsub
  rw [List.take_of_length_le (by rw [List.length_drop]; omega)]; rfl
theorem spare_sub (l e : List α) : lsub (l ++ e) 0 (l.length : Int) = l := by
  unfold lsub
  simp
end
/-- Up to place i all are the same. -/
def nnG {α : Type} (x : α) (y : List α) (i : Int) : Prop := 0 ≤ i ∧ i ≤ (y.length : Int) ∧ ∀ m : Nat, (m : Int) < i → y[m]? = some x
def nnP (y : List V3) (i : Int) : Prop := nnG (V3.mk 9 9 9) y i
def rchV (l : List V3) : Prop := l.length * 24 ≤ reach
end Go.Fx
