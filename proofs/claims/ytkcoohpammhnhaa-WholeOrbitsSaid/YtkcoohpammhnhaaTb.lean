/-
  WholeOrbits in Lean.
-/
import Derived.Test.YtkcoohpammhnhaaTa
import Derived.Test.YtkcoohpammhnhaaOe
set_option linter.unusedSimpArgs false
set_option linter.unusedVariables false
set_option linter.unusedSectionVars false
namespace Go.Fx
open Go
def hiP (o : List Pt) (p : Pt) (b : Bool) (i : Int) : Prop := 0 ≤ i ∧ i ≤ (o.length : Int) ∧ b = decide (p ∈ o.take i.toNat)
theorem hi_init (o : List Pt) (p : Pt) : hiP o p false 0 := ⟨Int.le_refl _, by omega, by simp⟩
theorem hi_next {o : List Pt} {p : Pt} {b : Bool} {i : Int} (h : hiP o p b i) (hi : i < (o.length : Int)) : (o.getD i.toNat zerP = p → hiP o p true (i + 1)) ∧ (¬ o.getD i.toNat zerP = p → hiP o p b (i + 1)) := by
  obtain ⟨h1, h2, h3⟩ := h
  constructor <;> intro e <;> refine ⟨by omega, by omega, ?_⟩ <;> rw [take_succ h1 hi zerP]
  · exact (decide_eq_true (List.mem_append.2 (.inr (by rw [e]; exact List.mem_singleton.2 rfl)))).symm
  · rw [h3]
    congr 1
    rw [List.mem_append, List.mem_singleton]
    exact propext ⟨.inl, fun c => c.elim id fun c => absurd c.symm e⟩
theorem hi_end {o : List Pt} {p : Pt} {b : Bool} {i : Int} (h : hiP o p b i) (hi : ¬ i < (o.length : Int)) : b = decide (p ∈ o) := by rw [h.2.2, take_end hi]
theorem cmpE_vals {a b z : Int} (hz : z = -1 ∨ z = 0 ∨ z = 1) : cmpE a b z = -1 ∨ cmpE a b z = 0 ∨ cmpE a b z = 1 := by
  unfold cmpE
  split
  · exact .inl rfl
  · split
    · exact .inr (.inr rfl)
    · exact hz
theorem ordX_m1 {p q : Pt} (h : ordX p q < 0) : ordX p q = -1 := by
  have : ordX p q = -1 ∨ ordX p q = 0 ∨ ordX p q = 1 := by
    unfold ordX
    split
    · exact cmpE_vals (cmpE_vals (cmpE_vals (.inr (.inl rfl))))
    · exact .inr (.inl rfl)
  omega
theorem pla_frm {m : Int} (h : rgtM m = true) (v : V3) : frmP (plaP m v) = true ∧ plaE m = 0 := by
  unfold plaP plaE
  rw [if_pos h, if_pos h]
  exact ⟨frmP_mod h v, rfl⟩
theorem wo_q {g : List Op3} {p q : Pt} (hz : ocE g [p] = 0) (hq : q ∈ ofL g p) :
    ocE g [q] = 0 ∧ ofL g q = ofL g p ∧ lsP g q = lsP g p ∧ saE g p q = 0 ∧ saB g p q = true ∧ inB g (lsI g q) ∧ appE (g.getD (lsI g q).toNat zerO) q = 0 ∧ appP (g.getD (lsI g q).toNat zerO) q = lsP g p := by
  have hi := (of_mem hz).1 hq
  obtain ⟨a, ha, rfl⟩ := (im_iff hz).1 hi
  have hz2 : ocE g [appX a p] = 0 := oc_move hz
  obtain ⟨s1, s2⟩ := sa_iff hz hz2 rfl
  obtain ⟨u1, u2⟩ := ls_idx hz2
  have u3 := u2 _ u1 (Int.le_refl _)
  rw [decide_eq_true (rfl : lsI g (appX a p) = lsI g (appX a p))] at u3
  have u4 := of_decide_eq_true u3
  have hl := ls_move hz ha
  refine ⟨hz2, of_move hz ha, hl, s1, by rw [s2]; exact decide_eq_true hi, u1, (app_eq hz2 (getD_mem u1.1 u1.2 zerO)).2, u4.trans hl⟩
theorem si_at {g : List Op3} {p : Pt} (hz : ocE g [p] = 0) {i : Int} (hi : i ∈ siL g p) : appP (g.getD i.toNat zerO) p = p := by
  have h1 : g.getD i.toNat zerO ∈ mapsL g (siL g p) := List.mem_map_of_mem (f := fun i : Int => g.getD i.toNat zerO) hi
  rw [si_maps hz, List.mem_filter] at h1
  exact of_decide_eq_true h1.2
theorem si_pos {g : List Op3} {p : Pt} (hz : ocE g [p] = 0) : 0 < (siL g p).length := by
  have h := of_times hz
  have hg : 0 < g.length := by have := of_head hz; have := of_len hz; omega
  rcases Nat.eq_zero_or_pos (siL g p).length with e | e
  · rw [e] at h; omega
  · exact e
end Go.Fx
