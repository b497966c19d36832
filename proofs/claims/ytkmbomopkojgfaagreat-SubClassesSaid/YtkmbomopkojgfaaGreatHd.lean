/-
  Layer 6 in Lean: the heart, normal parts, cuts read once.
-/
import Derived.Test.YtkmbomopkojgfaaGreatHc
import Derived.Test.YtkmbomopkojgfaaGreatTa
set_option linter.unusedSimpArgs false
set_option linter.unusedVariables false
set_option linter.unusedSectionVars false
namespace Go.Fx
open Go
/-! ### Cuts, read once -/
def bse (n : Int) (s : List Int) : List Bool := (List.range n.toNat).map fun x : Nat => decide ((x : Int) ∈ s)
def onO (l : List (List Int)) (n : Int) (u : List Bool) (t f i : Int) : Prop := (0 ≤ i ∧ i ≤ (l.length : Int)) ∧ u = bse n (l.take i.toNat).flatten ∧ t = ((l.take i.toNat).flatten.length : Int) ∧ f = if 0 < i then (l.getD (i - 1).toNat []).getD 0 0 else -1
def onI (l : List (List Int)) (n i : Int) (u : List Bool) (t j : Int) : Prop := (0 ≤ j ∧ j ≤ ((l.getD i.toNat []).length : Int)) ∧ u = bse n ((l.take i.toNat).flatten ++ (l.getD i.toNat []).take j.toNat) ∧ t = ((l.take i.toNat).flatten.length : Int) + j
theorem bse_len {n : Int} (s : List Int) : (bse n s).length = n.toNat := by unfold bse; simp
theorem bse_at {n : Int} {s : List Int} {x : Int} (h0 : 0 ≤ x) (hx : x < n) : inB (bse n s) x ∧ (bse n s).getD x.toNat false = decide (x ∈ s) := by
  refine ⟨⟨h0, by rw [bse_len]; omega⟩, ?_⟩
  unfold bse
  rw [rg_at _ (by omega), show ((x.toNat : Nat) : Int) = x by omega]
theorem bse_0 (n : Int) : bse n [] = lrep n false := by
  unfold bse lrep
  refine (rg_ext false (by simp) fun i hi => ?_).symm
  rw [List.getD_eq_getElem?_getD, List.getElem?_replicate]
  simp [hi]
theorem bse_set {n : Int} {s : List Int} {x : Int} (h0 : 0 ≤ x) (hx : x < n) : lset (bse n s) x true = bse n (s ++ [x]) := by
  unfold lset bse
  refine rg_set (by omega) ?_ fun j hj hne => ?_
  · exact decide_eq_true (List.mem_append.2 (.inr (by rw [List.mem_singleton]; omega)))
  · rw [Bool.eq_iff_iff, decide_eq_true_iff, decide_eq_true_iff, List.mem_append, List.mem_singleton]
    exact ⟨fun h => h.elim id fun h => by omega, .inl⟩
section
variable {l : List (List Int)} {n : Int} (hP : paP l n)
include hP
theorem pa_all : (l.flatten.length : Int) = n := by
  have h0 := hP.1
  have h1 : ((List.range n.toNat).map fun k : Nat => (k : Int)).Nodup := nodup_map List.nodup_range fun x _ y _ e => by omega
  have hm : ∀ x : Int, x ∈ l.flatten ↔ x ∈ (List.range n.toNat).map fun k : Nat => (k : Int) := fun x => by
    rw [hP.2.2.1, List.mem_map]
    exact ⟨fun h => ⟨x.toNat, List.mem_range.2 (by omega), by omega⟩, fun ⟨k, hk, e⟩ => by have := List.mem_range.1 hk; omega⟩
  have := ((List.perm_ext_iff_of_nodup hP.2.1 h1).2 hm).length_eq
  rw [List.length_map, List.length_range] at this
  omega
theorem pa_fl (i : Nat) : ((l.take i).flatten.length : Int) ≤ n := by
  have h1 := pa_all hP
  have h2 : l.flatten.length = (l.take i).flatten.length + (l.drop i).flatten.length := by
    rw [← List.length_append, ← List.flatten_append, List.take_append_drop]
  omega
theorem on_0 : onO l n (lrep n false) 0 (-1) 0 := ⟨⟨Int.le_refl _, by omega⟩, by rw [← bse_0 n]; simp, by simp, rfl⟩
theorem on_first {i t f : Int} {u : List Bool} (hO : onO l n u t f i) (hi : i < (l.length : Int)) : f < (l.getD i.toNat []).getD 0 0 := by
  have i0 := hO.1.1
  obtain ⟨c1, c2, c3, c4⟩ := pa_at hP i0 hi
  rw [hO.2.2.2]
  split
  · rename_i h; exact (pa_head hP h hi).2.2.2
  · have := (c4 _ (getD_mem (Int.le_refl _) c2.2 (0 : Int))).1
    have e : (l.getD i.toNat []).getD (0 : Int).toNat 0 = (l.getD i.toNat []).getD 0 0 := rfl
    rw [e] at this
    omega
theorem on_in {i t f : Int} {u : List Bool} (hO : onO l n u t f i) : onI l n i u t 0 := ⟨⟨Int.le_refl _, by omega⟩, by rw [hO.2.1]; simp, by rw [hO.2.2.1]; omega⟩
theorem on_step {i j t : Int} {u : List Bool} (i0 : 0 ≤ i) (hi : i < (l.length : Int)) (hI : onI l n i u t j) (hj : j < ((l.getD i.toNat []).length : Int)) {p : Int} (hp : p = (l.getD i.toNat []).getD j.toNat 0) :
    inB (l.getD i.toNat []) j ∧ (0 ≤ p ∧ p < n) ∧ inB u p ∧ u.getD p.toNat false = false ∧ (0 < j → w64 (j - 1) = j - 1 ∧ inB (l.getD i.toNat []) (j - 1) ∧ (l.getD i.toNat []).getD (j - 1).toNat 0 < p) ∧
    onI l n i (lset u p true) (w64 (t + 1)) (w64 (j + 1)) ∧ (decide (0 ≤ paMu l i (w64 (j + 1))) = true ∧ decide (paMu l i (w64 (j + 1)) < paMu l i j) = true) := by
  obtain ⟨⟨j0, j1⟩, hu, ht⟩ := hI
  obtain ⟨s1, s2, s3, s4, s5, s6, s7⟩ := pa_step hP i0 hi (u := sen n ((l.take i.toNat).flatten ++ (l.getD i.toNat []).take j.toNat)) ⟨⟨j0, j1⟩, rfl⟩ hj hp
  have hn := hP.1
  have hnew : p ∉ (l.take i.toNat).flatten ++ (l.getD i.toNat []).take j.toNat := fun hc => by
    rw [(sen_at s2.1 s2.2).2, if_pos hc] at s4; cases s4
  have hw : w64 (j + 1) = j + 1 := by
    have h1 := (pa_at hP i0 hi).2.2
    have h2 : (l.getD i.toNat []).Nodup := h1.1.imp fun h => by omega
    have h3 := nodup_le (m := (List.range n.toNat).map fun k : Nat => (k : Int)) h2 fun x hx => by
      have := h1.2 x hx
      exact List.mem_map.2 ⟨x.toNat, List.mem_range.2 (by omega), by omega⟩
    rw [List.length_map, List.length_range] at h3
    exact w64_id (by omega) (by omega)
  have hfl := pa_fl hP i.toNat
  have hjn : j ≤ 192 := by
    have h1 := (pa_at hP i0 hi).2.2
    have h2 : (l.getD i.toNat []).Nodup := h1.1.imp fun h => by omega
    have h3 := nodup_le (m := (List.range n.toNat).map fun k : Nat => (k : Int)) h2 fun x hx => by
      have := h1.2 x hx
      exact List.mem_map.2 ⟨x.toNat, List.mem_range.2 (by omega), by omega⟩
    rw [List.length_map, List.length_range] at h3
    omega
  have hw2 : w64 (t + 1) = t + 1 := w64_id (by omega) (by omega)
  obtain ⟨b1, b2⟩ := bse_at (s := (l.take i.toNat).flatten ++ (l.getD i.toNat []).take j.toNat) s2.1 s2.2
  rw [decide_eq_false hnew] at b2
  rw [← hu] at b1 b2
  refine ⟨s1, s2, b1, b2, s5, ?_, s7⟩
  rw [hw, hw2]
  refine ⟨⟨by omega, by omega⟩, ?_, by omega⟩
  rw [hu, bse_set s2.1 s2.2, take_succ j0 hj (0 : Int), ← hp, List.append_assoc]
theorem on_next {i j t f : Int} {u : List Bool} (i0 : 0 ≤ i) (hi : i < (l.length : Int)) (hI : onI l n i u t j) (hj : ¬ j < ((l.getD i.toNat []).length : Int)) :
    onO l n u t ((l.getD i.toNat []).getD 0 0) (w64 (i + 1)) ∧ (decide (0 ≤ liMu l (w64 (i + 1))) = true ∧ decide (liMu l (w64 (i + 1)) < liMu l i) = true) := by
  have hn := hP.1
  have hw : w64 (i + 1) = i + 1 := w64_id (by omega) (by omega)
  rw [hw]
  obtain ⟨⟨j0, j1⟩, hu, ht⟩ := hI
  refine ⟨⟨⟨by omega, by omega⟩, ?_, ?_, ?_⟩, decide_eq_true (by unfold liMu; omega), decide_eq_true (by unfold liMu; omega)⟩
  · rw [hu, take_end hj, take_succ i0 hi ([] : List Int), List.flatten_append]
    simp
  · rw [ht, take_succ i0 hi ([] : List Int), List.flatten_append, List.length_append]
    simp only [List.flatten_cons, List.flatten_nil, List.append_nil]
    omega
  · rw [if_pos (by omega), show i + 1 - 1 = i by omega]
theorem on_end {i t f : Int} {u : List Bool} (hO : onO l n u t f i) (hi : ¬ i < (l.length : Int)) : t = n := by
  rw [hO.2.2.1, take_end hi]; exact pa_all hP
end
/-! ### The heart -/
section
variable {g : List Op3} (hg : chkE g = 0)
include hg
theorem heL_eq : heL g = g.filter (heA g) := if_pos hg
theorem heA_iff {o : Op3} : heA g o = true ↔ ∀ b ∈ g, mulO o b = mulO b o := by
  unfold heA
  rw [List.all_eq_true]
  exact ⟨fun h b hb => eqO_iff.1 (h b hb), fun h b hb => eqO_iff.2 (h b hb)⟩
theorem he_mem {o : Op3} : o ∈ heL g ↔ o ∈ g ∧ ∀ b ∈ g, mulO o b = mulO b o := by rw [heL_eq hg, List.mem_filter, heA_iff hg]
theorem he_chk : chkE (heL g) = 0 := by
  obtain ⟨hF, _, _, _⟩ := chk_grp hg
  rw [heL_eq hg]
  refine chk_filter hg ((heA_iff hg).2 fun b hb => by rw [(mulO_one (hF b hb).T).1, (mulO_one (hF b hb).T).2]) fun a ha b hb h1 h2 => (heA_iff hg).2 fun c hc => ?_
  have h1 := (heA_iff hg).1 h1
  have h2 := (heA_iff hg).1 h2
  rw [mulO_assoc, h2 c hc, ← mulO_assoc, h1 c hc, mulO_assoc]
theorem clC_eq : clC g = ctL (conA g) g g.length g.length := if_pos hg
theorem clC_pa : paP (clC g) (g.length : Int) := by rw [clC_eq hg]; exact pa_ct (con_act hg) (chk_len hg)
theorem con_fix {o : Op3} (ho : o ∈ g) {k : Nat} (hk : k < g.length) : conA g o k = k ↔ mulO o (g.getD k zerO) = mulO (g.getD k zerO) o := by
  obtain ⟨hF, hnd, _, hcl⟩ := chk_grp hg
  obtain ⟨i1, i2, i3, _⟩ := inv_in hg ho
  have hx := g_at hk
  have hm := hcl _ (hcl _ ho _ hx) _ i1
  constructor
  · intro e
    have e1 : mulO (mulO o (g.getD k zerO)) (invO o) = g.getD k zerO := by
      rw [← (ix_in hm).2.1]
      have : (idxO g (mulO (mulO o (g.getD k zerO)) (invO o))).toNat = k := e
      rw [this]
    have e2 : mulO (mulO (mulO o (g.getD k zerO)) (invO o)) o = mulO (g.getD k zerO) o := by rw [e1]
    rwa [mulO_assoc, i3, (mulO_one (hF _ (hcl _ ho _ hx)).T).1] at e2
  · intro e
    unfold conA
    rw [e, mulO_assoc, i2, (mulO_one (hF _ hx).T).1, idx_at hnd hk]; omega
theorem alone_iff {a : Nat} (ha : a < g.length) : (loN (conA g) g a = a ∧ (orbI (conA g) g g.length a).length = 1) ↔ heA g (g.getD a zerO) = true := by
  have hA := con_act hg
  rw [heA_iff hg]
  constructor
  · rintro ⟨hl, h1⟩ b hb
    refine ((con_fix hg hb ha).1 ?_).symm
    have m1 : (a : Int) ∈ orbI (conA g) g g.length a := orb_mem.2 ⟨a, ha, hl, rfl⟩
    have m2 : ((conA g b a : Nat) : Int) ∈ orbI (conA g) g g.length a := orb_mem.2 ⟨_, hA.lt b hb a ha, by rw [lo_move hA ha hb, hl], rfl⟩
    obtain ⟨y, hy⟩ := List.length_eq_one_iff.1 h1
    rw [hy, List.mem_singleton] at m1 m2
    omega
  · intro h
    have hfix : ∀ o ∈ g, conA g o a = a := fun o ho => (con_fix hg ho ha).2 (h o ho).symm
    have himg : ∀ x ∈ imgN (conA g) g a, x = a := fun x hx => by
      obtain ⟨o, ho, rfl⟩ := List.mem_map.1 hx
      exact hfix o ho
    have hl := himg _ (lo_mem hA ha)
    refine ⟨hl, ?_⟩
    have h1 := (orb_head ha hl).2
    have h2 := nodup_le (m := [(a : Int)]) (orb_nodup (f := conA g) (H := g) (N := g.length) a) fun x hx => by
      obtain ⟨k, k1, k2, rfl⟩ := orb_mem.1 hx
      rw [List.mem_singleton, himg k ((lo_iff hA ha k1).1 (by rw [k2, hl]))]
    simp only [List.length_singleton] at h2
    omega
theorem he_count : ((clC g).filter fun c => decide ((c.length : Int) = 1)).length = (heL g).length := by
  have hA := con_act hg
  have e1 : g = (List.range g.length).map fun k => g.getD k zerO := rg_ext zerO rfl fun i hi => rfl
  have e2 : (heL g).length = ((List.range g.length).filter fun k => heA g (g.getD k zerO)).length := by
    rw [heL_eq hg]
    have : g.filter (heA g) = ((List.range g.length).map fun k => g.getD k zerO).filter (heA g) := by rw [← e1]
    rw [this, List.filter_map, List.length_map]; rfl
  rw [e2, clC_eq hg]
  unfold ctL fstN
  rw [List.filter_map, List.length_map, List.filter_filter]
  congr 1
  apply List.filter_congr
  intro k hk
  have hk := List.mem_range.1 hk
  rw [Bool.eq_iff_iff, ← alone_iff hg hk, Bool.and_eq_true]
  unfold isF
  rw [decide_eq_true_iff]
  show decide (((orbI (conA g) g g.length k).length : Int) = 1) = true ∧ _ ↔ _
  rw [decide_eq_true_iff]
  exact ⟨fun h => ⟨h.2, by omega⟩, fun h => ⟨by omega, h.1⟩⟩
theorem clC_at {i : Int} (h0 : 0 ≤ i) (hi : i < ((clC g).length : Int)) :
    ∃ a : Nat, a < g.length ∧ loN (conA g) g a = a ∧ (clC g).getD i.toNat [] = orbI (conA g) g g.length a ∧ ((clC g).getD i.toNat []).getD 0 0 = (a : Int) ∧ 0 < ((clC g).getD i.toNat []).length ∧ Int.tmod (g.length : Int) (((clC g).getD i.toNat []).length : Int) = 0 ∧
      (((clC g).getD i.toNat []).length = 1 ↔ g.getD a zerO ∈ heL g) := by
  have hA := con_act hg
  rw [clC_eq hg] at hi ⊢
  obtain ⟨a, h1, h2, h3, h4, h5⟩ := ct_get hA h0 hi
  refine ⟨a, h1, h2, h3, by rw [h3]; exact h4, by rw [h3]; exact h5, ?_, ?_⟩
  · rw [h3, orb_len]
    obtain ⟨_, d⟩ := ct_dvd hA ((fst_mem hA).2 ⟨h1, h2⟩)
    exact Int.tmod_eq_zero_of_dvd (Int.natCast_dvd_natCast.2 d)
  · rw [h3, heL_eq hg, List.mem_filter]
    have := alone_iff hg h1
    exact ⟨fun h => ⟨g_at h1, this.1 ⟨h2, h⟩⟩, fun h => (this.2 h.2).2⟩
end
def wcN (l : List (List Int)) (a i : Int) : Prop := (0 ≤ i ∧ i ≤ (l.length : Int)) ∧ a = (((l.take i.toNat).filter fun c => decide ((c.length : Int) = 1)).length : Int)
theorem wc_0 (l : List (List Int)) : wcN l 0 0 := ⟨⟨Int.le_refl _, by omega⟩, by simp⟩
theorem wc_next {l : List (List Int)} {a i : Int} (hl : l.length ≤ 192) (h : wcN l a i) (hi : i < (l.length : Int)) :
    ((((l.getD i.toNat []).length : Int) = 1) → wcN l (w64 (a + 1)) (w64 (i + 1))) ∧ (¬ (((l.getD i.toNat []).length : Int) = 1) → wcN l a (w64 (i + 1))) ∧ (decide (0 ≤ liMu l (w64 (i + 1))) = true ∧ decide (liMu l (w64 (i + 1)) < liMu l i) = true) := by
  obtain ⟨⟨h1, h2⟩, h3⟩ := h
  have hw : w64 (i + 1) = i + 1 := w64_id (by omega) (by omega)
  have ha : a ≤ 192 := by
    rw [h3]
    have := List.length_filter_le (fun c : List Int => decide ((c.length : Int) = 1)) (l.take i.toNat)
    rw [List.length_take] at this
    omega
  have hw2 : w64 (a + 1) = a + 1 := w64_id (by omega) (by omega)
  rw [hw, hw2]
  refine ⟨fun hc => ⟨⟨by omega, by omega⟩, ?_⟩, fun hc => ⟨⟨by omega, by omega⟩, ?_⟩, decide_eq_true (by unfold liMu; omega), decide_eq_true (by unfold liMu; omega)⟩
  · rw [take_succ h1 hi ([] : List Int), fil_snoc, if_pos (decide_eq_true hc), List.length_append, List.length_singleton]; omega
  · rw [take_succ h1 hi ([] : List Int), fil_snoc, if_neg (fun e => hc (of_decide_eq_true e))]; exact h3
theorem wc_end {l : List (List Int)} {a i : Int} (h : wcN l a i) (hi : ¬ i < (l.length : Int)) : a = ((l.filter fun c => decide ((c.length : Int) = 1)).length : Int) := by rw [h.2, take_end hi]
/-! ### Normal parts -/
section
variable {g h : List Op3} (hg : chkE g = 0) (hh : chkE h = 0) (hs : ∀ o ∈ h, o ∈ g)
include hg hh hs
theorem no_true (H : ∀ a ∈ g, ∀ b ∈ h, ∃ c ∈ h, mulO a b = mulO c a) : noB g h = true := by
  obtain ⟨hF, hnd, _, hcl⟩ := chk_grp hg
  have H2 : ∀ a ∈ g, ∀ b ∈ h, ∃ c ∈ h, mulO b a = mulO a c := fun a ha b hb => by
    obtain ⟨i1, i2, i3, _⟩ := inv_in hg ha
    obtain ⟨c, hc, e⟩ := H _ i1 b hb
    refine ⟨c, hc, ?_⟩
    have e2 : mulO (mulO a (mulO (invO a) b)) a = mulO (mulO a (mulO c (invO a))) a := by rw [e]
    rw [← mulO_assoc a, i2, (mulO_one (hF b (hs b hb)).T).2, mulO_assoc a, mulO_assoc c, i3, (mulO_one (hF c (hs c hc)).T).1] at e2
    exact e2
  unfold noB
  rw [if_pos (bo_of hg hh hs), List.all_eq_true]
  intro k hk
  have hk := List.mem_range.1 hk
  have ha := g_at hk
  refine decide_eq_true ?_
  have e1 : lfL g h k h.length = h.map fun b => idxO g (mulO (g.getD k zerO) b) := by unfold lfL; rw [List.take_length]
  have e2 : rgL g h k h.length = h.map fun b => idxO g (mulO b (g.getD k zerO)) := by unfold rgL; rw [List.take_length]
  have n1 := cos_nodup hg hh hs ha
  have n2 : (h.map fun b => idxO g (mulO b (g.getD k zerO))).Nodup := nodup_map (chk_grp hh).2.1 fun x hx y hy e => by
    have e := idxO_inj (hcl _ (hs x hx) _ ha) (hcl _ (hs y hy) _ ha) e
    obtain ⟨i1, i2, _, _⟩ := inv_in hg ha
    have e3 : mulO (mulO x (g.getD k zerO)) (invO (g.getD k zerO)) = mulO (mulO y (g.getD k zerO)) (invO (g.getD k zerO)) := by rw [e]
    rwa [mulO_assoc, mulO_assoc, i2, (mulO_one (hF x (hs x hx)).T).1, (mulO_one (hF y (hs y hy)).T).1] at e3
  rw [e1, e2]
  have hp : (h.map fun b => idxO g (mulO (g.getD k zerO) b)).Perm (h.map fun b => idxO g (mulO b (g.getD k zerO))) := (List.perm_ext_iff_of_nodup n1 n2).2 fun x => by
    rw [List.mem_map, List.mem_map]
    constructor
    · rintro ⟨b, hb, rfl⟩
      obtain ⟨c, hc, e⟩ := H _ ha b hb
      exact ⟨c, hc, by rw [e]⟩
    · rintro ⟨b, hb, rfl⟩
      obtain ⟨c, hc, e⟩ := H2 _ ha b hb
      exact ⟨c, hc, by rw [e]⟩
  exact sortG_eq toI (fun _ _ => trivial) hp
/-- A part of half the maps is normal. -/
theorem no_half (h2 : 2 * h.length = g.length) : noB g h = true := by
  obtain ⟨hF, hnd, _, hcl⟩ := chk_grp hg
  obtain ⟨_, hnd2, _, hcl2⟩ := chk_grp hh
  refine no_true hg hh hs fun a ha b hb => ?_
  obtain ⟨i1, i2, i3, _⟩ := inv_in hg ha
  have hbg := hs b hb
  have hab := hcl a ha b hbg
  have hc := hcl _ hab _ i1
  have key : mulO (mulO (mulO a b) (invO a)) a = mulO a b := by rw [mulO_assoc, i3, (mulO_one (hF _ hab).T).1]
  suffices mulO (mulO a b) (invO a) ∈ h from ⟨_, this, key.symm⟩
  by_cases hah : a ∈ h
  · exact hcl2 _ (hcl2 a hah b hb) _ (inv_in hh hah).1
  refine Classical.byContradiction fun hn => ?_
  have hL : (h ++ h.map (mulO a)).Nodup := by
    rw [List.nodup_append]
    refine ⟨hnd2, nodup_map hnd2 fun x hx y hy e => mul_cancel hg ha (hs x hx) (hs y hy) e, fun x hx y hy e => ?_⟩
    obtain ⟨d, hd, rfl⟩ := List.mem_map.1 hy
    have hdi := (inv_in hh hd).1
    refine hah ?_
    have : mulO x (invO d) = a := by rw [e, mulO_assoc, (inv_in hh hd).2.1, (mulO_one (hF a ha).T).1]
    rw [← this]
    exact hcl2 x hx _ hdi
  have hsub : ∀ x ∈ h ++ h.map (mulO a), x ∈ g := fun x hx => by
    rcases List.mem_append.1 hx with hx | hx
    · exact hs x hx
    · obtain ⟨d, hd, rfl⟩ := List.mem_map.1 hx
      exact hcl a ha d (hs d hd)
  have hall : mulO (mulO a b) (invO a) ∈ h ++ h.map (mulO a) := Classical.byContradiction fun hx => by
    have h3 := nodup_le (l := mulO (mulO a b) (invO a) :: (h ++ h.map (mulO a))) (m := g) (List.nodup_cons.2 ⟨hx, hL⟩) fun y hy => by
      rcases List.mem_cons.1 hy with rfl | hy
      · exact hc
      · exact hsub y hy
    rw [List.length_cons, List.length_append, List.length_map] at h3
    omega
  rcases List.mem_append.1 hall with h3 | h3
  · exact hn h3
  · obtain ⟨d, hd, e⟩ := List.mem_map.1 h3
    have e1 : d = mulO b (invO a) := mul_cancel hg ha (hs d hd) (hcl _ hbg _ i1) (by rw [e, mulO_assoc])
    have e2 : invO a = mulO (invO b) d := by
      rw [e1, ← mulO_assoc, (inv_in hh hb).2.2.1, (mulO_one (hF _ i1).T).2]
    have e3 : invO a ∈ h := by rw [e2]; exact hcl2 _ (inv_in hh hb).1 _ hd
    have e4 := (inv_in hh e3).1
    rw [(inv_in hg ha).2.2.2] at e4
    exact hah e4
end
theorem no_self {g : List Op3} (hg : chkE g = 0) : noB g g = true := by
  obtain ⟨hF, hnd, _, hcl⟩ := chk_grp hg
  refine no_true hg hg (fun _ h => h) fun a ha b hb => ?_
  obtain ⟨i1, i2, i3, _⟩ := inv_in hg ha
  exact ⟨_, hcl _ (hcl a ha b hb) _ i1, by rw [mulO_assoc (mulO a b), i3, (mulO_one (hF _ (hcl a ha b hb)).T).1]⟩
theorem no_heart {g : List Op3} (hg : chkE g = 0) : noB g (heL g) = true :=
  no_true hg (he_chk hg) (fun o ho => ((he_mem hg).1 ho).1) fun a ha b hb => ⟨b, hb, (((he_mem hg).1 hb).2 a ha).symm⟩
/-! ### WholeCosets -/
def wcG (l m : List Sd) : List Op3 := cloL (sedL (l ++ m))
def wcH (l : List Sd) : List Op3 := cloL (sedL l)
theorem sed_part (l m : List Sd) : ∀ o ∈ sedL l, o ∈ sedL (l ++ m) := fun o ho => by
  unfold sedL at ho ⊢
  cases l with
  | nil => simp at ho
  | cons s r =>
    have e : ((s :: r) ++ m).getD 0 (Sd.mk false 0 0 0 0 0) = (s :: r).getD 0 (Sd.mk false 0 0 0 0 0) := rfl
    rw [e]
    obtain ⟨x, hx, rfl⟩ := List.mem_map.1 ho
    refine List.mem_map.2 ⟨x, ?_, rfl⟩
    rw [List.take_append]
    exact List.mem_append.2 (.inl hx)
theorem wc_part {l m : List Sd} (hF : ∀ o ∈ sedL (l ++ m), Frm o) (h1 : cloE (sedL (l ++ m)) = 0) (h2 : cloE (sedL l) = 0) : ∀ o ∈ wcH l, o ∈ wcG l m := fun o ho => by
  have h3 := ((clo_isG h2).mem o).1 ho
  exact ((clo_isG h1).mem o).2 (gen_sub (fun x hx => Gen.mem hF (sed_part l m x hx)) h3)
end Go.Fx
