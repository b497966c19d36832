/-
  Layer 6 in Lean: the document's examples.
-/
import Derived.Test.YtcadkndjcneedaaGreatHd
set_option linter.unusedSimpArgs false
set_option linter.unusedVariables false
set_option linter.unusedSectionVars false
namespace Go.Fx
open Go
def trO (a b : Int) : Op3 := Op3.mk (M3.mk 1 0 0 0 1 0 0 0 1) (V3.mk a b 0)
def miO (a b c d : Int) : Op3 := Op3.mk (M3.mk a b 0 c d 0 0 0 1) (V3.mk 0 0 0)
def mirO : List Op3 := [miO (-1) 0 0 (-1), miO (-1) 0 0 1, miO 0 (-1) (-1) 0, miO 0 (-1) 1 0, miO 0 1 (-1) 0, miO 0 1 1 0, miO 1 0 0 (-1), miO 1 0 0 1]
def mi2 : List Op3 := [miO 1 0 0 (-1), miO 1 0 0 1]
def haL : List Op3 := [flO 1 1 1 (V3.mk 0 0 0), flO 1 1 1 (V3.mk 12 0 0)]
def thL : List Op3 := [flO 1 1 1 (V3.mk 0 0 0), flO 1 1 1 (V3.mk 8 0 0), flO 1 1 1 (V3.mk 16 0 0)]
def enA : List Op3 := [Op3.mk (M3.mk 1 0 0 0 (-1) 0 0 0 1) (V3.mk 0 0 0), oneO]
def enB : List Op3 := [oneO, Op3.mk (M3.mk 1 1 0 0 (-1) 0 0 0 1) (V3.mk 0 0 0)]
def flX : List Op3 := (List.range 24).map fun k : Nat => flO 1 1 1 (V3.mk (k : Int) 0 0)
def flY : List Op3 := (List.range 24).map fun k : Nat => flO 1 1 1 (V3.mk 0 (k : Int) 0)
def flXi (i : Nat) : List Op3 := (List.range 24).map fun k : Nat => if k < i then flO 1 1 1 (V3.mk (k : Int) 0 0) else zerO
def flYi (i : Nat) : List Op3 := (List.range 24).map fun k : Nat => if k < i then flO 1 1 1 (V3.mk 0 (k : Int) 0) else zerO
def fxJ (x y : List Op3) (i : Int) : Prop := (0 ≤ i ∧ i ≤ 24) ∧ x = flXi i.toNat ∧ y = flYi i.toNat
def fxM (i : Int) : Int := 24 - i
def so192 (l : List Op3) : Prop := l.length ≤ 192
def soI (l s : List Op3) (i : Int) : Prop := (0 ≤ i ∧ i ≤ (l.length : Int)) ∧ s = insO (l.take i.toNat)
theorem so6_fit {l s : List Op3} {i : Int} (hl : l.length ≤ 192) (h : soI l s i) (hi : i < (l.length : Int)) (x : Op3) : (s ++ [x]).length * 96 ≤ 140737488355328 := by
  have := (insO_perm (l.take i.toNat)).length_eq
  rw [List.length_append, List.length_singleton, h.2, this, List.length_take]
  omega
theorem so6_next {l s t : List Op3} {i : Int} (hl : l.length ≤ 192) (h : soI l s i) (hi : i < (l.length : Int)) (ht : t = putO s (l.getD i.toNat zerO)) :
    soI l t (w64 (i + 1)) ∧ (decide (0 ≤ opMu l (w64 (i + 1))) = true ∧ decide (opMu l (w64 (i + 1)) < opMu l i) = true) := by
  obtain ⟨⟨h1, h2⟩, h3⟩ := h
  obtain ⟨e1, e2, e3⟩ := opMu_next (g := l) (by unfold room; omega) h1 hi
  refine ⟨?_, e2, e3⟩
  rw [e1]
  refine ⟨⟨by omega, by omega⟩, ?_⟩
  rw [take_succ h1 hi zerO, insO_snoc, ← h3, ht]
theorem so6_end {l s : List Op3} {i : Int} (h : soI l s i) (hi : ¬ i < (l.length : Int)) : s = insO l := by rw [h.2, take_end hi]
theorem so6_len {l s : List Op3} {i : Int} (hl : l.length ≤ 192) (h : soI l s i) : s.length * 96 ≤ room := by
  have := (insO_perm (l.take i.toNat)).length_eq
  rw [h.2, this, List.length_take]
  unfold room; omega
end Go.Fx
