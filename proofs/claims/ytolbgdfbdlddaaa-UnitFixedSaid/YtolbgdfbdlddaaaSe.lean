/-
  Lists with room behind them.
-/
import Derived.Test.YtolbgdfbdlddaaaSc
set_option linter.unusedSimpArgs false
set_option linter.unusedVariables false
set_option linter.unusedSectionVars false
namespace Go.Fx
open Go
section
variable {α : Type}
theorem lput_len0 {l m : List α} {i : Int} (h : i.toNat + m.length ≤ l.length) : (lput l i m).length = l.length := by
  unfold lput
  rw [List.length_append, List.length_append, List.length_take, List.length_drop]; omega
theorem zmin_self (n : Int) : zmin n n = n := by unfold zmin; split <;> rfl
theorem lsub_all (l : List α) : lsub l 0 (zmin (l.length : Int) (l.length : Int)) = l := by
  rw [zmin_self]
  unfold lsub
  rw [List.take_of_length_le (by rw [List.length_drop]; omega)]; rfl
theorem spareL0 (l : List α) (z : α) (k : Int) (hk : 0 ≤ k) : (lput (lrep ((l.length : Int) + k) z) 0 (lsub l 0 (zmin (l.length : Int) (l.length : Int)))).length = l.length + k.toNat := by
  rw [lsub_all, lput_len0]
  · unfold lrep; rw [List.length_replicate]; omega
  · show 0 + l.length ≤ _; unfold lrep; rw [List.length_replicate]; omega
theorem spareL (l e : List α) (z : α) (k : Int) (hk : k = (e.length : Int)) : lput (lput (lrep ((l.length : Int) + k) z) 0 (lsub l 0 (zmin (l.length : Int) (l.length : Int)))) (l.length : Int) e = l ++ e := by
  have h1 : lput (lrep ((l.length : Int) + k) z) 0 (lsub l 0 (zmin (l.length : Int) (l.length : Int))) = l ++ List.replicate e.length z := by
    rw [lsub_all]
    unfold lput lrep
    rw [hk, show ((l.length : Int) + (e.length : Int)).toNat = l.length + e.length by omega]
    simp [List.drop_replicate]
  rw [h1]
  unfold lput
  have h2 : ((l.length : Int)).toNat = l.length := by omega
  rw [h2, List.take_left, List.drop_of_length_le (by rw [List.length_append, List.length_replicate]; omega), List.append_nil]
theorem spare_sub (l e : List α) : lsub (l ++ e) 0 (l.length : Int) = l := by
  unfold lsub
  simp
theorem spare_at (l e : List α) (d : α) {i : Int} (h0 : 0 ≤ i) (hi : i < (l.length : Int)) : (l ++ e).getD i.toNat d = l.getD i.toNat d := by
  rw [List.getD_eq_getElem?_getD, List.getElem?_append_left (by omega), ← List.getD_eq_getElem?_getD]
theorem spare_end (l e : List α) (d : α) {i : Int} (h0 : 0 ≤ i) : (l ++ e).getD ((l.length : Int) + i).toNat d = e.getD i.toNat d := by
  rw [List.getD_eq_getElem?_getD, List.getElem?_append_right (by omega), show ((l.length : Int) + i).toNat - l.length = i.toNat by omega, ← List.getD_eq_getElem?_getD]
theorem spare_0 (l e : List α) (d : α) : (l ++ e).getD ((l.length : Int)).toNat d = e.getD 0 d := by
  have := spare_end l e d (i := 0) (Int.le_refl _)
  simpa using this
end
/-- Up to place i all are the same. -/
def nnG {α : Type} (x : α) (y : List α) (i : Int) : Prop := 0 ≤ i ∧ i ≤ (y.length : Int) ∧ ∀ m : Nat, (m : Int) < i → y[m]? = some x
theorem nn_init {α : Type} (x : α) (y : List α) : nnG x y 0 := ⟨Int.le_refl _, by omega, fun m hm => by omega⟩
theorem nn_next {α : Type} {x : α} {y : List α} {i : Int} (h : nnG x y i) (hi : i < (y.length : Int)) : nnG x (lset y i x) (i + 1) := by
  obtain ⟨h1, h2, h3⟩ := h
  refine ⟨by omega, by rw [lset_len]; omega, fun m hm => ?_⟩
  unfold lset
  rw [List.getElem?_set]
  split
  · rename_i e; rw [if_pos (by omega)]
  · rename_i e; exact h3 m (by omega)
theorem nn_end {α : Type} {x : α} {y : List α} {i : Int} (h : nnG x y i) (hi : ¬ i < (y.length : Int)) {k : Int} (h0 : 0 ≤ k) (hk : k < (y.length : Int)) (d : α) : y.getD k.toNat d = x := by
  rw [List.getD_eq_getElem?_getD, h.2.2 k.toNat (by omega)]; rfl
def nnP (y : List V3) (i : Int) : Prop := nnG (V3.mk 9 9 9) y i
def rchV (l : List V3) : Prop := l.length * 24 ≤ reach
end Go.Fx
