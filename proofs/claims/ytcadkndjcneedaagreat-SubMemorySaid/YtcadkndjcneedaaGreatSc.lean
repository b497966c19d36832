/-
  slices.Compact in Lean; columns and places alike.
-/
import Derived.Test.YtcadkndjcneedaaGreatSx
import Derived.Test.YtcadkndjcneedaaGreatGf
set_option linter.unusedSimpArgs false
set_option linter.unusedVariables false
set_option linter.unusedSectionVars false
namespace Go.Fx
open Go

instance decV3 : DecidableEq V3 := fun a b => decidable_of_iff (cmpV a b = 0) cmpV_zero
instance decPt : DecidableEq Pt := fun a b => decidable_of_iff (a.M = b.M ∧ a.X = b.X) ⟨fun h => Pt.ext' h.1 h.2, fun h => by rw [h]; exact ⟨rfl, rfl⟩⟩
section
variable {α : Type} [DecidableEq α]
/-- Up to place k no two neighbours are alike. -/
def cpOut (s : List α) (k : Int) : Prop := 1 ≤ k ∧ k ≤ (s.length : Int) ∧ cpG (s.take k.toNat) = s.take k.toNat
/-- The rest is gone through: s0 as it was; from k0 on the first two were alike. -/
def cpIn (s0 : List α) (k0 : Int) (s : List α) (k k2 : Int) : Prop :=
  1 ≤ k0 ∧ 1 ≤ k2 ∧ k0 + k2 ≤ (s0.length : Int) ∧ s.length = s0.length ∧ 1 ≤ k ∧ k < k0 + k2 ∧ s.take k.toNat = cpG (s0.take (k0 + k2).toNat) ∧ ∀ m : Nat, k0 + k2 - 1 ≤ (m : Int) → s[m]? = s0[m]?
end
def cpOV (s : List V3) (k : Int) : Prop := cpOut s k
def cpIV (s0 : List V3) (k0 : Int) (s : List V3) (k k2 : Int) : Prop := cpIn s0 k0 s k k2
def cpOX (s : List Pt) (k : Int) : Prop := cpOut s k
def cpIX (s0 : List Pt) (k0 : Int) (s : List Pt) (k k2 : Int) : Prop := cpIn s0 k0 s k k2
end Go.Fx
