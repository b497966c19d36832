/-
  Layer 5 in Lean: rounds over lists that are alike.
-/
import Derived.Test.YthoicknhjjlnjaaGreatGe
set_option linter.unusedSimpArgs false
set_option linter.unusedVariables false
set_option linter.unusedSectionVars false
namespace Go.Fx
open Go
def rgP (n i : Int) : Prop := 0 ≤ i ∧ i ≤ n
def rgMu (n i : Int) : Int := n - i
theorem rg_init {α : Type} (l : List α) : rgP (l.length : Int) 0 := ⟨Int.le_refl _, by omega⟩
theorem rg_next {n i : Int} (hn : n ≤ 9223372036854775807) (h : rgP n i) (hi : i < n) : rgP n (w64 (i + 1)) ∧ (decide (0 ≤ rgMu n (w64 (i + 1))) = true ∧ decide (rgMu n (w64 (i + 1)) < rgMu n i) = true) := by
  have h0 := h.1
  have e : w64 (i + 1) = i + 1 := w64_id (by omega) (by omega)
  rw [e]
  exact ⟨⟨by omega, by omega⟩, decide_eq_true (by unfold rgMu; omega), decide_eq_true (by unfold rgMu; omega)⟩
theorem rotL_len (g : List Op3) : (rotL g).length ≤ g.length := by
  unfold rotL; split
  · exact rotF_len g
  · exact Nat.zero_le _
theorem cenL_len (g : List Op3) : (cenL g).length ≤ g.length := by
  unfold cenL cenF; split
  · rw [List.length_map]; exact List.length_filter_le _ _
  · exact Nat.zero_le _
theorem eqVc_self (a : V3) : ((decide (a.x = a.x)) && ((decide (a.y = a.y)) && ((decide (a.z = a.z)) && true))) = true := by simp
def rchO (l : List Op3) : Prop := l.length * 96 ≤ reach
theorem keep_sub (l : List Op3) (a b : Op3) : lsub (lapp l [a, b]) 0 (l.length : Int) = l := by simp [lsub, lapp]
theorem keep_0 (l : List Op3) (a b : Op3) : (lapp l [a, b]).getD ((l.length : Int)).toNat zerO = a := by simp [lapp, List.getD]
theorem keep_1 (l : List Op3) (a b : Op3) : (lapp l [a, b]).getD (((l.length : Int) + 1)).toNat zerO = b := by
  rw [show ((l.length : Int) + 1).toNat = l.length + 1 by omega]
  simp [lapp, List.getD]
theorem last_app (l : List Op3) (a : Op3) : (lapp l [a]).getD ((((lapp l [a]).length : Int) - 1)).toNat zerO = a := by
  have : ((((lapp l [a]).length : Int) - 1)).toNat = l.length := by unfold lapp; rw [List.length_append]; simp
  rw [this]
  simp [lapp, List.getD]
theorem last_in (l : List Op3) (a : Op3) : inB (lapp l [a]) (((lapp l [a]).length : Int) - 1) := by
  unfold inB lapp
  rw [List.length_append]
  simp only [List.length_singleton]
  omega
theorem cloL_len (l : List Op3) : (cloL l).length ≤ 192 := by
  unfold cloL
  by_cases h : gE l = 0
  · rw [if_pos h]
    cases e : cloR lfO l with
    | none => exact Nat.zero_le _
    | some a =>
      show (insO a).length ≤ 192
      rw [(insO_perm a).length_eq]
      exact (clo_gen way_l (gE_frm h) e).1.len
  · rw [if_neg h]; exact Nat.zero_le _
theorem smO_self (l : List Op3) : smO l l = true := decide_eq_true rfl
theorem fit_app {l : List Op3} {n : Nat} {m : List Op3} (h : l.length ≤ n) (hn : (n + m.length) * 96 ≤ 140737488355328) : lfit 96 (lapp l m) := by
  unfold lfit lapp
  rw [List.length_append]
  omega
end Go.Fx
