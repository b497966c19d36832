/-
  slices.Compact in Lean; columns and places alike.
-/
import Derived.Test.YthoicknhjjlnjaaGreatSx
import Derived.Test.YthoicknhjjlnjaaGreatGf
set_option linter.unusedSimpArgs false
set_option linter.unusedVariables false
set_option linter.unusedSectionVars false
namespace Go.Fx
open Go

instance decV3 : DecidableEq V3 := fun a b => decidable_of_iff (cmpV a b = 0) cmpV_zero
theorem V3.ext3 {a b : V3} (h1 : a.x = b.x) (h2 : a.y = b.y) (h3 : a.z = b.z) : a = b := by
  obtain ⟨a1, a2, a3⟩ := a
  obtain ⟨b1, b2, b3⟩ := b
  simp only at h1 h2 h3
  rw [h1, h2, h3]
instance decPt : DecidableEq Pt := fun a b => decidable_of_iff (a.M = b.M ∧ a.X = b.X) ⟨fun h => Pt.ext' h.1 h.2, fun h => by rw [h]; exact ⟨rfl, rfl⟩⟩
theorem eqVc (a b : V3) : ((decide (a.x = b.x)) && ((decide (a.y = b.y)) && ((decide (a.z = b.z)) && true))) = decide (a = b) := by
  rw [Bool.eq_iff_iff]
  simp only [Bool.and_eq_true, decide_eq_true_eq, and_true]
  exact ⟨fun h => V3.ext3 h.1 h.2.1 h.2.2, fun h => by rw [h]; exact ⟨rfl, rfl, rfl⟩⟩
theorem eqPc (a b : Pt) : ((decide (a.M = b.M)) && ((decide (a.X.x = b.X.x)) && ((decide (a.X.y = b.X.y)) && ((decide (a.X.z = b.X.z)) && true)))) = decide (a = b) := by
  rw [Bool.eq_iff_iff]
  simp only [Bool.and_eq_true, decide_eq_true_eq, and_true]
  exact ⟨fun h => Pt.ext' h.1 (V3.ext3 h.2.1 h.2.2.1 h.2.2.2), fun h => by rw [h]; exact ⟨rfl, rfl, rfl, rfl⟩⟩
section
variable {α : Type} [DecidableEq α]
theorem cpG_snoc : ∀ (l : List α) (a b : α), cpG (l ++ [a, b]) = if a = b then cpG (l ++ [a]) else cpG (l ++ [a]) ++ [b]
  | [], a, b => by
    show (if a = b then cpG [b] else a :: cpG [b]) = _
    split
    · rename_i e; rw [e]; rfl
    · rfl
  | [x], a, b => by
    have ih := cpG_snoc [] a b
    simp only [List.nil_append] at ih
    show (if x = a then cpG [a, b] else x :: cpG [a, b]) = if a = b then (if x = a then cpG [a] else x :: cpG [a]) else (if x = a then cpG [a] else x :: cpG [a]) ++ [b]
    rw [ih]
    by_cases h1 : x = a <;> by_cases h2 : a = b <;> simp [h1, h2]
  | x :: y :: r, a, b => by
    have ih := cpG_snoc (y :: r) a b
    simp only [List.cons_append] at ih ⊢
    show (if x = y then cpG (y :: (r ++ [a, b])) else x :: cpG (y :: (r ++ [a, b]))) = if a = b then (if x = y then cpG (y :: (r ++ [a])) else x :: cpG (y :: (r ++ [a]))) else (if x = y then cpG (y :: (r ++ [a])) else x :: cpG (y :: (r ++ [a]))) ++ [b]
    rw [ih]
    by_cases h1 : x = y <;> by_cases h2 : a = b <;> simp [h1, h2]
/-- Up to place k no two neighbours are alike. -/
def cpOut (s : List α) (k : Int) : Prop := 1 ≤ k ∧ k ≤ (s.length : Int) ∧ cpG (s.take k.toNat) = s.take k.toNat
/-- The rest is gone through: s0 as it was; from k0 on the first two were alike. -/
def cpIn (s0 : List α) (k0 : Int) (s : List α) (k k2 : Int) : Prop :=
  1 ≤ k0 ∧ 1 ≤ k2 ∧ k0 + k2 ≤ (s0.length : Int) ∧ s.length = s0.length ∧ 1 ≤ k ∧ k < k0 + k2 ∧ s.take k.toNat = cpG (s0.take (k0 + k2).toNat) ∧ ∀ m : Nat, k0 + k2 - 1 ≤ (m : Int) → s[m]? = s0[m]?
theorem take_two {s : List α} {k : Int} (h1 : 1 ≤ k) (h2 : k < (s.length : Int)) (d : α) : s.take (k + 1).toNat = s.take (k - 1).toNat ++ [s.getD (k - 1).toNat d, s.getD k.toNat d] ∧ s.take k.toNat = s.take (k - 1).toNat ++ [s.getD (k - 1).toNat d] := by
  have e1 : s.take k.toNat = s.take (k - 1).toNat ++ [s.getD (k - 1).toNat d] := by
    have := take_succ (l := s) (i := k - 1) (by omega) (by omega) d
    rwa [show k - 1 + 1 = k by omega] at this
  refine ⟨?_, e1⟩
  rw [take_succ (by omega) h2 d, e1, List.append_assoc]; rfl
theorem cp_init {s : List α} (h : 2 ≤ (s.length : Int)) : cpOut s 1 := by
  refine ⟨by omega, by omega, ?_⟩
  match s, h with
  | x :: r, _ => rfl
theorem cp_step {s : List α} {k : Int} (h : cpOut s k) (hk : k < (s.length : Int)) {d : α} (hne : ¬ s.getD k.toNat d = s.getD (k - 1).toNat d) : cpOut s (k + 1) := by
  obtain ⟨h1, h2, h3⟩ := h
  refine ⟨by omega, by omega, ?_⟩
  obtain ⟨e1, e2⟩ := take_two h1 hk d
  rw [e1, cpG_snoc, if_neg fun e => hne e.symm, ← e2, h3, e2, List.append_assoc]; rfl
theorem cp_end {s : List α} {k : Int} (h : cpOut s k) (hk : ¬ k < (s.length : Int)) : cpG s = s := by
  have := h.2.2
  rwa [List.take_of_length_le (by have := h.1; omega)] at this
theorem cpi_init {s : List α} {k : Int} (h : cpOut s k) (hk : k < (s.length : Int)) {d : α} (he : s.getD k.toNat d = s.getD (k - 1).toNat d) : cpIn s k s k 1 := by
  obtain ⟨h1, h2, h3⟩ := h
  refine ⟨h1, by omega, by omega, rfl, h1, by omega, ?_, fun _ _ => rfl⟩
  obtain ⟨e1, e2⟩ := take_two h1 hk d
  rw [e1, cpG_snoc, if_pos he.symm, ← e2, h3]
theorem cpi_at {s0 s : List α} {k0 k k2 : Int} (h : cpIn s0 k0 s k k2) {m : Int} (hm : k0 + k2 - 1 ≤ m) (h0 : 0 ≤ m) (d : α) : s.getD m.toNat d = s0.getD m.toNat d := by
  rw [List.getD_eq_getElem?_getD, List.getD_eq_getElem?_getD, h.2.2.2.2.2.2.2 m.toNat (by omega)]
theorem cpi_same {s0 s : List α} {k0 k k2 : Int} (h : cpIn s0 k0 s k k2) (hk : k0 + k2 < (s0.length : Int)) {d : α} (he : s0.getD (k0 + k2).toNat d = s0.getD (k0 + k2 - 1).toNat d) : cpIn s0 k0 s k (k2 + 1) := by
  obtain ⟨h1, h2, h3, h4, h5, h6, h7, h8⟩ := h
  refine ⟨h1, by omega, by omega, h4, h5, by omega, ?_, fun m hm => h8 m (by omega)⟩
  obtain ⟨e1, e2⟩ := take_two (s := s0) (k := k0 + k2) (by omega) hk d
  rw [show k0 + (k2 + 1) = k0 + k2 + 1 by omega, e1, cpG_snoc, if_pos he.symm, ← e2, h7]
theorem cpi_diff {s0 s : List α} {k0 k k2 : Int} (h : cpIn s0 k0 s k k2) (hk : k0 + k2 < (s0.length : Int)) {d x : α} (hx : x = s0.getD (k0 + k2).toNat d) (hne : ¬ s0.getD (k0 + k2).toNat d = s0.getD (k0 + k2 - 1).toNat d) :
    cpIn s0 k0 (lset s k x) (k + 1) (k2 + 1) := by
  obtain ⟨h1, h2, h3, h4, h5, h6, h7, h8⟩ := h
  refine ⟨h1, by omega, by omega, by unfold lset; rw [List.length_set]; exact h4, by omega, by omega, ?_, fun m hm => ?_⟩
  · obtain ⟨e1, e2⟩ := take_two (s := s0) (k := k0 + k2) (by omega) hk d
    rw [show k0 + (k2 + 1) = k0 + k2 + 1 by omega, e1, cpG_snoc, if_neg fun e => hne e.symm, ← e2, ← h7, ← hx]
    have hl : k.toNat < s.length := by omega
    rw [show (k + 1).toNat = k.toNat + 1 by omega, List.take_add_one]
    unfold lset
    rw [List.getElem?_set_self hl, List.take_set_of_le (Nat.le_refl _)]
    rfl
  · unfold lset
    rw [List.getElem?_set_ne (by omega)]
    exact h8 m (by omega)
theorem cpi_end {s0 s : List α} {k0 k k2 : Int} (h : cpIn s0 k0 s k k2) (hk : ¬ k2 < (s0.length : Int) - k0) (n : Int) (d : α) : lsub (lput s k (lrep n d)) 0 k = cpG s0 ∧ k ≤ (s.length : Int) := by
  obtain ⟨h1, h2, h3, h4, h5, h6, h7, h8⟩ := h
  refine ⟨?_, by omega⟩
  rw [show (k0 + k2).toNat = s0.length by omega, List.take_length] at h7
  unfold lsub lput
  rw [← h7]
  simp only [Int.toNat_zero, List.drop_zero]
  rw [List.append_assoc, List.take_append_of_le_length (by rw [List.length_take]; omega)]
  rw [List.take_take, Nat.min_self]
end
def cpOV (s : List V3) (k : Int) : Prop := cpOut s k
def cpIV (s0 : List V3) (k0 : Int) (s : List V3) (k k2 : Int) : Prop := cpIn s0 k0 s k k2
def cpOX (s : List Pt) (k : Int) : Prop := cpOut s k
def cpIX (s0 : List Pt) (k0 : Int) (s : List Pt) (k k2 : Int) : Prop := cpIn s0 k0 s k k2
end Go.Fx
