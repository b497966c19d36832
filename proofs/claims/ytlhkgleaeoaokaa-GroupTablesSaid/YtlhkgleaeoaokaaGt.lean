/-
  Layer 5: GroupTables in Lean: rows marked and grown one by one.
-/
import Derived.Test.YtlhkgleaeoaokaaGf
set_option linter.unusedSimpArgs false
set_option linter.unusedVariables false
set_option linter.unusedSectionVars false
namespace Go.Fx
open Go
/-- Row k of t is row k of u, marked at its head and grown by its mark. -/
def tkR (u t : List (List Int)) (k : Nat) : Prop := (t.getD k []).length = (u.getD k []).length + 1 ∧ (t.getD k []).getD (u.getD k []).length 0 = -1 - (k : Int) ∧ (0 < (u.getD k []).length → (t.getD k []).getD 0 0 = 1000 * (k : Int))
def tkP (u t : List (List Int)) (i : Int) : Prop := (0 ≤ i ∧ i ≤ (u.length : Int)) ∧ t.length = u.length ∧ (∀ k : Nat, k < i.toNat → tkR u t k) ∧ ∀ k : Nat, i.toNat ≤ k → t.getD k [] = u.getD k []
def tkIn (u t : List (List Int)) (i j : Int) : Prop := (0 ≤ i ∧ i < (u.length : Int)) ∧ t.length = u.length ∧ (∀ k : Nat, k < i.toNat → tkR u t k) ∧ (∀ k : Nat, i.toNat < k → t.getD k [] = u.getD k []) ∧
  (t.getD i.toNat []).length = (u.getD i.toNat []).length ∧ (0 ≤ j ∧ j ≤ ((u.getD i.toNat []).length : Int)) ∧ (0 < j → (t.getD i.toNat []).getD 0 0 = 1000 * i)
theorem lset_at {t : List (List Int)} {i : Int} {r : List Int} (h0 : 0 ≤ i) (h1 : i < (t.length : Int)) : (lset t i r).getD i.toNat [] = r := by
  unfold lset
  rw [List.getD_eq_getElem?_getD, List.getElem?_set, if_pos rfl, if_pos (by omega)]; rfl
theorem lset_ne {t : List (List Int)} {i : Int} {r : List Int} {k : Nat} (h : k ≠ i.toNat) : (lset t i r).getD k [] = t.getD k [] := by
  unfold lset
  rw [List.getD_eq_getElem?_getD, List.getElem?_set, if_neg (fun e => h e.symm), ← List.getD_eq_getElem?_getD]
theorem lset_ln {α : Type} (t : List α) (i : Int) (r : α) : (lset t i r).length = t.length := by unfold lset; simp
theorem tk_init (u : List (List Int)) : tkP u u 0 := ⟨⟨Int.le_refl _, by omega⟩, rfl, fun k hk => absurd hk (by simp), fun k _ => rfl⟩
theorem tk_in {u t : List (List Int)} {i : Int} (h : tkP u t i) (hi : i < (u.length : Int)) : tkIn u t i 0 := by
  obtain ⟨⟨h0, h1⟩, h2, h3, h4⟩ := h
  exact ⟨⟨h0, hi⟩, h2, h3, fun k hk => h4 k (by omega), by rw [h4 _ (Nat.le_refl _)], ⟨Int.le_refl _, by omega⟩, fun h => absurd h (by omega)⟩
theorem tk_step {u t : List (List Int)} {i j : Int} (h : tkIn u t i j) (hj : j < ((u.getD i.toNat []).length : Int)) (hn : u.length ≤ 192) (hr : (u.getD i.toNat []).length ≤ 192) :
    tkIn u (lset t i (lset (t.getD i.toNat []) j (w64 (w64 (1000 * i) + j)))) i (j + 1) := by
  obtain ⟨⟨h0, h1⟩, h2, h3, h4, h5, ⟨h6, h7⟩, h8⟩ := h
  have hl : i < (t.length : Int) := by omega
  refine ⟨⟨h0, h1⟩, by rw [lset_ln]; exact h2, fun k hk => ?_, fun k hk => by rw [lset_ne (by omega)]; exact h4 k hk, by rw [lset_at h0 hl, lset_ln]; exact h5, ⟨by omega, by omega⟩, fun _ => ?_⟩
  · have := h3 k hk
    unfold tkR at this ⊢
    rw [lset_ne (by omega)]; exact this
  · rw [lset_at h0 hl]
    unfold lset
    rw [List.getD_eq_getElem?_getD, List.getElem?_set]
    by_cases e : j = 0
    · subst e
      rw [if_pos (show Int.toNat 0 = 0 from rfl), if_pos (show Int.toNat 0 < _ by rw [h5]; have : Int.toNat 0 = 0 := rfl; omega)]
      simp only [Option.getD_some]
      rw [w64_id (x := 1000 * i) (by omega) (by omega), w64_id (by omega) (by omega)]; omega
    · rw [if_neg (by omega), ← List.getD_eq_getElem?_getD]
      exact h8 (by omega)
theorem tk_out {u t : List (List Int)} {i j : Int} (h : tkIn u t i j) (hj : ¬ j < ((u.getD i.toNat []).length : Int)) : tkP u (lset t i (lapp (t.getD i.toNat []) [(-1) - i])) (i + 1) := by
  obtain ⟨⟨h0, h1⟩, h2, h3, h4, h5, ⟨h6, h7⟩, h8⟩ := h
  have hl : i < (t.length : Int) := by omega
  refine ⟨⟨by omega, by omega⟩, by rw [lset_ln]; exact h2, fun k hk => ?_, fun k hk => by rw [lset_ne (by omega)]; exact h4 k (by omega)⟩
  by_cases e : k = i.toNat
  · subst e
    unfold tkR
    rw [lset_at h0 hl]
    unfold lapp
    refine ⟨by rw [List.length_append, h5]; rfl, ?_, fun hp => ?_⟩
    · rw [List.getD_eq_getElem?_getD, List.getElem?_append_right (by omega), h5, Nat.sub_self]
      simp only [List.getElem?_cons_zero, Option.getD_some]; omega
    · rw [List.getD_eq_getElem?_getD, List.getElem?_append_left (by omega), ← List.getD_eq_getElem?_getD, h8 (by omega)]; omega
  · have := h3 k (by omega)
    unfold tkR at this ⊢
    rw [lset_ne e]; exact this
theorem tab_small (g : List Op3) : (tabL g).length ≤ 192 ∧ ∀ k : Nat, ((tabL g).getD k []).length ≤ 192 := by
  unfold tabL
  by_cases h : chkE g = 0
  · rw [if_pos h]
    have hg := chk_len h
    refine ⟨by rw [List.length_map]; exact hg, fun k => ?_⟩
    rw [List.getD_eq_getElem?_getD, List.getElem?_map]
    cases e : g[k]? with
    | none => simp
    | some a => simp only [Option.map_some, Option.getD_some]; unfold rowO; rw [List.length_map]; exact hg
  · rw [if_neg h]; simp
end Go.Fx
