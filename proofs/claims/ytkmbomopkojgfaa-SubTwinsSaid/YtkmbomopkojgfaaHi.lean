/-
  SubTwins in Lean: maps of one class.
-/
import Derived.Test.YtkmbomopkojgfaaHh
set_option linter.unusedSimpArgs false
set_option linter.unusedVariables false
set_option linter.unusedSectionVars false
namespace Go.Fx
open Go
def twN (g : List Op3) (a i : Int) : Prop := wcN (clC g) a i
def twK (g : List Op3) (i j : Int) : Prop := 0 ≤ j ∧ j ≤ (((clC g).getD i.toNat []).length : Int)
theorem cls_same {g : List Op3} (hg : chkE g = 0) {a : Nat} (ha : a < g.length) (hl : loN (conA g) g a = a) {x : Int} (hx : x ∈ orbI (conA g) g g.length a) :
    inB g x ∧ oroZ (g.getD x.toNat zerO) = oroZ (g.getD a zerO) ∧ oroE (g.getD x.toNat zerO) = 0 ∧ kinZ (g.getD x.toNat zerO) = kinZ (g.getD a zerO) ∧ kinE (g.getD x.toNat zerO) = 0 := by
  have hA := con_act hg
  obtain ⟨hF, hnd, _, hcl⟩ := chk_grp hg
  obtain ⟨k, k1, k2, rfl⟩ := orb_mem.1 hx
  rw [Int.toNat_natCast]
  refine ⟨⟨by omega, by omega⟩, ?_⟩
  obtain ⟨o, ho, e⟩ := List.mem_map.1 ((lo_iff hA ha k1).1 (by rw [k2, hl]))
  have hga := g_at ha
  have i1 := (inv_in hg ho).1
  have m1 := cg_of hF hcl ho hga
  have m2 := cg_of hF hcl m1.2 i1
  have eg : g.getD k zerO = mulO (mulO o (g.getD a zerO)) (invO o) := by
    have := (ix_in m2.2).2.1
    rw [← this]
    have e2 : (idxO g (mulO (mulO o (g.getD a zerO)) (invO o))).toNat = k := e
    rw [e2]
  have hiv : invE o = 0 := by
    have := (inv_at hg (i := idxO g o) (ix_in ho).1).2.2
    rwa [(ix_in ho).2.1] at this
  rw [eg]
  exact ot_conj (grp_oro hg hga) hiv m1.1 m2.1
theorem grp_kin {g : List Op3} (hg : chkE g = 0) {o : Op3} (ho : o ∈ g) : kinE o = 0 := ot_kin (grp_oro hg ho)
end Go.Fx
