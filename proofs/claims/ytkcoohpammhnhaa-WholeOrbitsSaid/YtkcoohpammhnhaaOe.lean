/-
  Layer 9 in Lean: the statements.
-/
import Derived.Test.YtkcoohpammhnhaaOd
import Derived.Test.YtkcoohpammhnhaaGh
set_option linter.unusedSimpArgs false
set_option linter.unusedVariables false
set_option linter.unusedSectionVars false
namespace Go.Fx
open Go
def pair9L : List Op3 := [Op3.mk (M3.mk (-1) 0 0 0 (-1) 0 0 0 (-1)) (V3.mk 0 0 0), oneO]
def mvP (a j : Int) : Prop := 0 ≤ j ∧ j ≤ a + 1
def mvMu (a j : Int) : Int := a + 1 - j
theorem oc_ne {g : List Op3} {p : Pt} (h : ¬ (chkE g = 0 ∧ frmP p = true)) : ocE g [p] ≠ 0 := fun c => h ⟨(oc_one c).2, (oc_one c).1⟩
theorem of_ne {g : List Op3} {p : Pt} (h : ocE g [p] ≠ 0) : ofL g p = [] ∧ siL g p = [] := by
  unfold ofL siL; rw [if_neg h, if_neg h]; exact ⟨rfl, rfl⟩
theorem ofL_len (g : List Op3) (p : Pt) : (ofL g p).length ≤ g.length := by
  by_cases h : ocE g [p] = 0
  · exact of_len h
  · rw [(of_ne h).1]; exact Nat.zero_le _
theorem siL_len (g : List Op3) (p : Pt) : (siL g p).length ≤ g.length := by
  unfold siL
  split
  · exact plcX_len _ _ _
  · exact Nat.zero_le _
theorem nd_t {P : Prop} [Decidable P] (h : (!(decide P)) = true) : ¬ P := by simpa using h
theorem nd_f {P : Prop} [Decidable P] (h : (!(decide P)) = false) : P := by simpa using h
theorem g_atX {l : List Pt} {k : Nat} (hk : k < l.length) : l.getD k zerP ∈ l := by simp [List.getD, hk]
theorem of_step {g : List Op3} {p : Pt} (hz : ocE g [p] = 0) {i : Int} (h0 : 0 < i) (hi : i < ((ofL g p).length : Int)) : ordX ((ofL g p).getD (i - 1).toNat zerP) ((ofL g p).getD i.toNat zerP) < 0 := by
  have h := of_st hz
  unfold stG at h
  rw [List.pairwise_iff_getElem] at h
  have h1 : (i - 1).toNat < (ofL g p).length := by omega
  have h2 : i.toNat < (ofL g p).length := by omega
  have := h (i - 1).toNat i.toNat h1 h2 (by omega)
  have key : ∀ k (hk : k < (ofL g p).length), (ofL g p).getD k zerP = (ofL g p)[k] := fun k hk => by simp [List.getD, hk]
  rw [key _ h1, key _ h2]
  exact this
theorem sa_bad {g : List Op3} {p q : Pt} (h : ocE g [p] ≠ 0 ∨ ocE g [q] ≠ 0) : saE g p q ≠ 0 := fun c => by
  have hz2 : ocE g [p, q] = 0 := by
    unfold saE at c
    split at c
    · rename_i h; exact h
    · exact c
  obtain ⟨a, b, d⟩ := oc_two hz2
  exact h.elim (fun k => k (oc_of a d)) fun k => k (oc_of b d)
theorem sa_unlike {g : List Op3} {p q : Pt} (hz : ocE g [p] = 0) (hq : ocE g [q] = 0) (hm : p.M ≠ q.M) : saE g p q = 6 := by
  have h2 : ocE g [p, q] = 0 := by unfold ocE; rw [if_pos (by simp [(oc_one hz).1, (oc_one hq).1])]; exact (oc_one hz).2
  unfold saE; rw [if_pos h2, if_neg hm]
theorem sa_sym (g : List Op3) (p q : Pt) : saB g p q = saB g q p ∧ saE g p q = saE g q p := by
  have ho : ocE g [p, q] = ocE g [q, p] := by
    unfold ocE
    rw [show [p, q].all frmP = [q, p].all frmP by simp [Bool.and_comm]]
  have hE : saE g p q = saE g q p := by
    unfold saE; rw [ho]
    by_cases h : p.M = q.M
    · rw [h]
    · have : (if p.M = q.M then (0 : Int) else 6) = if q.M = p.M then 0 else 6 := by rw [if_neg h, if_neg fun c => h c.symm]
      rw [this]
  refine ⟨?_, hE⟩
  by_cases h : saE g p q = 0
  · have hz2 : ocE g [p, q] = 0 := by
      unfold saE at h
      split at h
      · rename_i k; exact k
      · exact h
    obtain ⟨a, b, d⟩ := oc_two hz2
    have hz := oc_of a d
    have hq := oc_of b d
    obtain ⟨o1, o2⟩ := orb_cases hz hq
    unfold saB
    rw [if_pos h, if_pos (hE ▸ h)]
    by_cases c : q ∈ imP g p
    · rw [decide_eq_true c, decide_eq_true (o1 c).2]
    · rw [decide_eq_false c, decide_eq_false (o2 c).1]
  · unfold saB; rw [if_neg h, if_neg (hE ▸ h)]
theorem lastG {α : Type} (l : List α) (a d : α) : (lapp l [a]).getD ((((lapp l [a]).length : Int) - 1)).toNat d = a := by
  have : ((((lapp l [a]).length : Int) - 1)).toNat = l.length := by unfold lapp; rw [List.length_append]; simp
  rw [this]
  unfold lapp
  rw [List.getD_eq_getElem?_getD, List.getElem?_append_right (Nat.le_refl _), Nat.sub_self]; rfl
theorem lastG_in {α : Type} (l : List α) (a : α) : inB (lapp l [a]) (((lapp l [a]).length : Int) - 1) := by
  unfold inB lapp
  rw [List.length_append, List.length_singleton]; omega
theorem ls_idx {g : List Op3} {p : Pt} (hz : ocE g [p] = 0) : inB g (lsI g p) ∧ ∀ j, inB g j → j ≤ lsI g p → decide (appP (g.getD j.toNat zerO) p = lsP g p) = decide (j = lsI g p) := by
  have hls : lsP g p ∈ imP g p := by
    unfold lsP; rw [if_pos hz]; exact (minX_ok (im_ok hz) (im_ne hz)).1
  have hli : lsI g p = idxD (imP g p) (lsP g p) := by unfold lsI lsP; rw [if_pos hz, if_pos hz]; rfl
  obtain ⟨h1, h2, h3⟩ := idxD_mem hls
  rw [imP_len] at h2
  rw [hli]
  refine ⟨⟨h1, h2⟩, fun j hj hle => ?_⟩
  have hg := imP_get (p := p) hj.1 hj.2
  have hlt : j.toNat < (imP g p).length := by rw [imP_len]; have := hj.1; have := hj.2; omega
  have hs : (imP g p)[j.toNat]? = some (appP (g.getD j.toNat zerO) p) := by
    rw [← hg, List.getD_eq_getElem?_getD, List.getElem?_eq_getElem hlt]; rfl
  by_cases e : j = idxD (imP g p) (lsP g p)
  · rw [decide_eq_true e]
    rw [e] at hs ⊢
    rw [hs] at h3
    exact decide_eq_true (Option.some.inj h3)
  · rw [decide_eq_false e]
    refine decide_eq_false fun c => ?_
    rw [c] at hs
    have h5 := idxD_first _ _ _ hs
    have h6 := hj.1
    exact e (by omega)
end Go.Fx
