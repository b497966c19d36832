/-
  Layer 6 in Lean: the heart, normal parts, cuts read once.
-/
import Derived.Test.YtcadkndjcneedaaGreatHc
import Derived.Test.YtcadkndjcneedaaGreatTa
set_option linter.unusedSimpArgs false
set_option linter.unusedVariables false
set_option linter.unusedSectionVars false
namespace Go.Fx
open Go
/-! ### Cuts, read once -/
def bse (n : Int) (s : List Int) : List Bool := (List.range n.toNat).map fun x : Nat => decide ((x : Int) ∈ s)
def onO (l : List (List Int)) (n : Int) (u : List Bool) (t f i : Int) : Prop := (0 ≤ i ∧ i ≤ (l.length : Int)) ∧ u = bse n (l.take i.toNat).flatten ∧ t = ((l.take i.toNat).flatten.length : Int) ∧ f = if 0 < i then (l.getD (i - 1).toNat []).getD 0 0 else -1
def onI (l : List (List Int)) (n i : Int) (u : List Bool) (t j : Int) : Prop := (0 ≤ j ∧ j ≤ ((l.getD i.toNat []).length : Int)) ∧ u = bse n ((l.take i.toNat).flatten ++ (l.getD i.toNat []).take j.toNat) ∧ t = ((l.take i.toNat).flatten.length : Int) + j
section
variable {l : List (List Int)} {n : Int} (hP : paP l n)
include hP
end
/-! ### The heart -/
section
variable {g : List Op3} (hg : chkE g = 0)
include hg
theorem heL_eq : heL g = g.filter (heA g) := if_pos hg
theorem heA_iff {o : Op3} : heA g o = true ↔ ∀ b ∈ g, mulO o b = mulO b o := by
  unfold heA
  rw [List.all_eq_true]
  exact ⟨fun h b hb => eqO_iff.1 (h b hb), fun h b hb => eqO_iff.2 (h b hb)⟩
theorem he_chk : chkE (heL g) = 0 := by
  obtain ⟨hF, _, _, _⟩ := chk_grp hg
  rw [heL_eq hg]
  refine chk_filter hg ((heA_iff hg).2 fun b hb => by rw [(mulO_one (hF b hb).T).1, (mulO_one (hF b hb).T).2]) fun a ha b hb h1 h2 => (heA_iff hg).2 fun c hc => ?_
  have h1 := (heA_iff hg).1 h1
  have h2 := (heA_iff hg).1 h2
  rw [mulO_assoc, h2 c hc, ← mulO_assoc, h1 c hc, mulO_assoc]
theorem clC_eq : clC g = ctL (conA g) g g.length g.length := if_pos hg
theorem clC_pa : paP (clC g) (g.length : Int) := by rw [clC_eq hg]; exact pa_ct (con_act hg) (chk_len hg)
theorem con_fix {o : Op3} (ho : o ∈ g) {k : Nat} (hk : k < g.length) : conA g o k = k ↔ mulO o (g.getD k zerO) = mulO (g.getD k zerO) o := by
  obtain ⟨hF, hnd, _, hcl⟩ := chk_grp hg
  obtain ⟨i1, i2, i3, _⟩ := inv_in hg ho
  have hx := g_at hk
  have hm := hcl _ (hcl _ ho _ hx) _ i1
  constructor
  · intro e
    have e1 : mulO (mulO o (g.getD k zerO)) (invO o) = g.getD k zerO := by
      rw [← (ix_in hm).2.1]
      have : (idxO g (mulO (mulO o (g.getD k zerO)) (invO o))).toNat = k := e
      rw [this]
    have e2 : mulO (mulO (mulO o (g.getD k zerO)) (invO o)) o = mulO (g.getD k zerO) o := by rw [e1]
    rwa [mulO_assoc, i3, (mulO_one (hF _ (hcl _ ho _ hx)).T).1] at e2
  · intro e
    unfold conA
    rw [e, mulO_assoc, i2, (mulO_one (hF _ hx).T).1, idx_at hnd hk]; omega
theorem alone_iff {a : Nat} (ha : a < g.length) : (loN (conA g) g a = a ∧ (orbI (conA g) g g.length a).length = 1) ↔ heA g (g.getD a zerO) = true := by
  have hA := con_act hg
  rw [heA_iff hg]
  constructor
  · rintro ⟨hl, h1⟩ b hb
    refine ((con_fix hg hb ha).1 ?_).symm
    have m1 : (a : Int) ∈ orbI (conA g) g g.length a := orb_mem.2 ⟨a, ha, hl, rfl⟩
    have m2 : ((conA g b a : Nat) : Int) ∈ orbI (conA g) g g.length a := orb_mem.2 ⟨_, hA.lt b hb a ha, by rw [lo_move hA ha hb, hl], rfl⟩
    obtain ⟨y, hy⟩ := List.length_eq_one_iff.1 h1
    rw [hy, List.mem_singleton] at m1 m2
    omega
  · intro h
    have hfix : ∀ o ∈ g, conA g o a = a := fun o ho => (con_fix hg ho ha).2 (h o ho).symm
    have himg : ∀ x ∈ imgN (conA g) g a, x = a := fun x hx => by
      obtain ⟨o, ho, rfl⟩ := List.mem_map.1 hx
      exact hfix o ho
    have hl := himg _ (lo_mem hA ha)
    refine ⟨hl, ?_⟩
    have h1 := (orb_head ha hl).2
    have h2 := nodup_le (m := [(a : Int)]) (orb_nodup (f := conA g) (H := g) (N := g.length) a) fun x hx => by
      obtain ⟨k, k1, k2, rfl⟩ := orb_mem.1 hx
      rw [List.mem_singleton, himg k ((lo_iff hA ha k1).1 (by rw [k2, hl]))]
    simp only [List.length_singleton] at h2
    omega
end
def wcN (l : List (List Int)) (a i : Int) : Prop := (0 ≤ i ∧ i ≤ (l.length : Int)) ∧ a = (((l.take i.toNat).filter fun c => decide ((c.length : Int) = 1)).length : Int)
/-! ### Normal parts -/
section
variable {g h : List Op3} (hg : chkE g = 0) (hh : chkE h = 0) (hs : ∀ o ∈ h, o ∈ g)
include hg hh hs
end
/-! ### WholeCosets -/
def wcG (l m : List Sd) : List Op3 := cloL (sedL (l ++ m))
def wcH (l : List Sd) : List Op3 := cloL (sedL l)
end Go.Fx
