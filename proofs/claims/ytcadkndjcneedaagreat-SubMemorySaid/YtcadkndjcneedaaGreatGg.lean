/-
  Layer 5 in Lean: what Close answers is a group; it hangs on what the maps generate alone; matrices times shifts.
-/
import Derived.Test.YtcadkndjcneedaaGreatGf
set_option linter.unusedSimpArgs false
set_option linter.unusedVariables false
set_option linter.unusedSectionVars false
namespace Go.Fx
open Go
theorem gen_sub {l m : List Op3} (h : ∀ o ∈ l, Gen m o) {x : Op3} (hx : Gen l x) : Gen m x := by
  induction hx with
  | one => exact .one
  | mul ho _ ih => exact Gen.comp (h _ ho) ih
theorem cloE_zero {l : List Op3} (h : cloE l = 0) : gE l = 0 ∧ ∃ a, cloR lfO l = some a ∧ cloL l = insO a := by
  unfold cloE at h
  by_cases hz : gE l = 0
  · rw [if_pos hz] at h
    cases e : cloR lfO l with
    | none => rw [e] at h; cases h
    | some a => exact ⟨hz, a, rfl, by unfold cloL; rw [if_pos hz, e]⟩
  · rw [if_neg hz] at h; exact absurd h hz
structure IsG (l g : List Op3) : Prop where
  nodup : g.Nodup
  len : g.length ≤ 192
  frm : ∀ o ∈ g, Frm o
  ord : ordO g
  mem : ∀ x, x ∈ g ↔ Gen l x
theorem clo_isG {l : List Op3} (h : cloE l = 0) : IsG l (cloL l) := by
  obtain ⟨hz, a, e, hc⟩ := cloE_zero h
  obtain ⟨k1, _⟩ := clo_gen way_l (gE_frm hz) e
  have hp := insO_perm a
  rw [hc]
  exact ⟨hp.nodup_iff.2 k1.nodup, by rw [hp.length_eq]; exact k1.len, fun o ho => k1.frm o (hp.mem_iff.1 ho), insO_ord a, fun x => (hp.mem_iff).trans (clo_iff_l (gE_frm hz) e x)⟩
theorem isG_clo {l g m : List Op3} (hI : IsG l g) (hm : gE m = 0) (hg : ∀ x, Gen l x ↔ Gen m x) : cloL m = g ∧ cloE m = 0 := by
  obtain ⟨a, e⟩ := clo_some way_l (gE_frm hm) hI.frm hI.len fun x => (hI.mem x).trans (hg x)
  obtain ⟨k1, _⟩ := clo_gen way_l (gE_frm hm) e
  have hp : a.Perm g := perm_of_mem k1.nodup hI.nodup fun x => (clo_iff_l (gE_frm hm) e x).trans ((hg x).symm.trans (hI.mem x).symm)
  constructor
  · unfold cloL; rw [if_pos hm, e]
    exact ord_unique (insO_ord a) hI.ord ((insO_perm a).trans hp)
  · unfold cloE; rw [if_pos hm, e]
theorem gE_of {m : List Op3} (h1 : m.length ≤ 192) (h2 : ∀ o ∈ m, Frm o) : gE m = 0 := by
  unfold gE
  rw [if_neg (by omega)]
  exact errL_zero.2 fun o ho => errO_ok.2 (h2 o ho)
theorem isG_st {l g : List Op3} (h : IsG l g) : stB g = true := by
  refine stB_iff.2 fun k hk => ?_
  have h1 := h.ord
  rw [ordO, List.pairwise_iff_getElem] at h1
  have h2 := h1 k (k + 1) (by omega) hk (by omega)
  have h3 : g.getD k zerO = g[k] := by simp [List.getD, show k < g.length by omega]
  have h4 : g.getD (k + 1) zerO = g[k + 1] := by simp [List.getD, hk]
  rw [h3, h4]
  rcases Int.lt_or_eq_of_le h2 with h5 | h5
  · exact h5
  · have := nodup_inj h.nodup (by omega) hk (cmpO_zero.1 h5)
    omega
theorem isG_chk {l g : List Op3} (h : IsG l g) : chkE g = 0 := by
  have hz := gE_of h.len h.frm
  unfold chkE
  rw [if_pos hz, if_pos]
  refine grpB_iff.2 ⟨isG_st h, memO_iff.2 ((h.mem _).2 .one), clsB_iff.2 fun a ha b hb => (h.mem _).2 (Gen.comp ((h.mem a).1 ha) ((h.mem b).1 hb))⟩
/-! ### Matrices times shifts -/
theorem grp_left {g : List Op3} (h : chkE g = 0) {b : Op3} (hb : b ∈ g) : ∃ c ∈ g, mulO c b = oneO ∧ mulO b c = oneO := by
  obtain ⟨hF, _, _, _⟩ := chk_grp h
  obtain ⟨c, hc, e⟩ := grp_right h hb
  have h2 := (inv_mul (hF b hb)).2
  have : invO b = c := undo_unique (inT_mod _) (hF c hc).T h2 e
  exact ⟨c, hc, by rw [← this]; exact h2, e⟩
def fibO (g : List Op3) (m : M3) : List Op3 := g.filter fun o => eqM o.R m
structure RotP (p : List Op3) : Prop where
  nodup : (rotF p).Nodup
  mem : ∀ o ∈ p, o.R ∈ rotF p
  has : ∀ m ∈ rotF p, ∃ o ∈ p, o.R = m
  last : ∀ m ∈ rotF p, cmpM m ((rotF p).getD ((rotF p).length - 1) zerO.R) ≤ 0
/-! ### Turned about -/
def tuP (l t : List Op3) (i : Int) : Prop := -1 ≤ i ∧ i < (l.length : Int) ∧ t = (l.drop (i + 1).toNat).reverse
def tuMu (i : Int) : Int := i + 1
end Go.Fx
