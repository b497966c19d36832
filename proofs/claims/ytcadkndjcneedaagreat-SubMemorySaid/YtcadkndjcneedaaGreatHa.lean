/-
  Layer 6 in Lean: cosets and classes as orbits.
-/
import Derived.Test.YtcadkndjcneedaaGreatGh
import Derived.Test.YtcadkndjcneedaaGreatUe
import Derived.Test.YtcadkndjcneedaaGreatSi
set_option linter.unusedSimpArgs false
set_option linter.unusedVariables false
set_option linter.unusedSectionVars false
namespace Go.Fx
open Go
theorem rg_at {α : Type} (f : Nat → α) {P i : Nat} (h : i < P) (d : α) : ((List.range P).map f).getD i d = f i := by
  simp [List.getD, h]
theorem rg_ext {α : Type} {P : Nat} {f : Nat → α} {l : List α} (d : α) (h1 : l.length = P) (h2 : ∀ i, i < P → l.getD i d = f i) : l = (List.range P).map f := by
  refine List.ext_getElem (by rw [List.length_map, List.length_range, h1]) fun i hi hj => ?_
  have := h2 i (by omega)
  rw [List.getElem_map, List.getElem_range, ← this]
  simp [List.getD, hi]
theorem rg_set {α : Type} {P i : Nat} {f h : Nat → α} {x : α} (hi : i < P) (h1 : h i = x) (h2 : ∀ j, j < P → j ≠ i → h j = f j) : ((List.range P).map f).set i x = (List.range P).map h := by
  refine rg_ext x (by simp) fun j hj => ?_
  rw [List.getD_eq_getElem?_getD, List.getElem?_set]
  by_cases e : i = j
  · subst e; rw [if_pos rfl, if_pos (by simpa using hj)]; simp [h1]
  · rw [if_neg e, h2 j hj fun c => e c.symm]
    simp [hj]
theorem rg_congr {α : Type} {P : Nat} {f h : Nat → α} (e : ∀ i, i < P → f i = h i) : (List.range P).map f = (List.range P).map h :=
  List.map_congr_left fun i hi => e i (List.mem_range.1 hi)
/-! ### Undone maps in a group -/
theorem inv_of {g : List Op3} (h : chkE g = 0) {a c : Op3} (ha : a ∈ g) (hc : c ∈ g) (e : mulO a c = oneO) : invO a = c := by
  obtain ⟨hF, _, _, _⟩ := chk_grp h
  exact undo_unique (inT_mod _) (hF c hc).T (inv_mul (hF a ha)).2 e
theorem inv_in {g : List Op3} (h : chkE g = 0) {a : Op3} (ha : a ∈ g) : invO a ∈ g ∧ mulO a (invO a) = oneO ∧ mulO (invO a) a = oneO ∧ invO (invO a) = a := by
  obtain ⟨c, hc, e1, e2⟩ := grp_left h ha
  have e := inv_of h ha hc e2
  rw [e]
  exact ⟨hc, e2, e1, inv_of h hc ha e1⟩
theorem inv_oneO {g : List Op3} (h : chkE g = 0) : invO oneO = oneO := by
  obtain ⟨hF, _, h1, _⟩ := chk_grp h
  exact inv_of h h1 h1 (mulO_one (hF _ h1).T).1
theorem inv_mulO {g : List Op3} (h : chkE g = 0) {a b : Op3} (ha : a ∈ g) (hb : b ∈ g) : invO (mulO a b) = mulO (invO b) (invO a) := by
  obtain ⟨hF, _, _, hcl⟩ := chk_grp h
  obtain ⟨a1, a2, a3, _⟩ := inv_in h ha
  obtain ⟨b1, b2, b3, _⟩ := inv_in h hb
  refine inv_of h (hcl a ha b hb) (hcl _ b1 _ a1) ?_
  rw [mulO_assoc, ← mulO_assoc b, b2, (mulO_one (hF _ a1).T).2, a2]
theorem ix_in {g : List Op3} {o : Op3} (ho : o ∈ g) : inB g (idxO g o) ∧ g.getD (idxO g o).toNat zerO = o ∧ (idxO g o).toNat < g.length ∧ ((idxO g o).toNat : Int) = idxO g o := by
  obtain ⟨h1, h2, h3⟩ := idxD_mem ho
  have e1 : idxO g o = idxD g o := rfl
  exact ⟨⟨by rw [e1]; exact h1, by rw [e1]; exact h2⟩, at_idx ho, by rw [e1]; omega, by rw [e1]; omega⟩
/-! ### Orbits as lists of places -/
section
variable (f : Op3 → Nat → Nat) (H : List Op3) (N : Nat)
def orbI (i : Nat) : List Int := ((List.range N).filter fun j => decide (loN f H j = i)).map fun j : Nat => (j : Int)
def ctL (k : Nat) : List (List Int) := (fstN f H k).map (orbI f H N)
/-- What is done ahead of stage a, and what c holds. -/
def dnL (a : Nat) (c : List Int) : List Bool := (List.range N).map fun x => decide (loN f H x < a) || decide ((x : Int) ∈ c)
end
section
variable {f : Op3 → Nat → Nat} {H : List Op3} {N : Nat}
theorem orb_mem {i : Nat} {x : Int} : x ∈ orbI f H N i ↔ ∃ k : Nat, k < N ∧ loN f H k = i ∧ x = (k : Int) := by
  unfold orbI
  rw [List.mem_map]
  constructor
  · rintro ⟨k, hk, rfl⟩
    obtain ⟨h1, h2⟩ := List.mem_filter.1 hk
    exact ⟨k, List.mem_range.1 h1, of_decide_eq_true h2, rfl⟩
  · rintro ⟨k, h1, h2, rfl⟩
    exact ⟨k, List.mem_filter.2 ⟨List.mem_range.2 h1, decide_eq_true h2⟩, rfl⟩
theorem orb_lt (i : Nat) : (orbI f H N i).Pairwise fun a b => a < b := by
  unfold orbI
  rw [List.pairwise_map]
  have h : (List.range N).Pairwise fun a b => a < b := List.pairwise_lt_range
  exact (h.filter _).imp fun h => by omega
theorem orb_nodup (i : Nat) : (orbI f H N i).Nodup := (orb_lt (f := f) (H := H) (N := N) i).imp fun h => by omega
theorem orb_srt {c : List Int} {a : Nat} (hn : c.Nodup) (hm : ∀ x : Int, x ∈ c ↔ ∃ k : Nat, k < N ∧ loN f H k = a ∧ x = (k : Int)) : srtI c = orbI f H N a := by
  refine ordG_unique toI (fun _ _ => trivial) (insG_ord toI fun _ _ => trivial) ((orb_lt a).imp fun h => by unfold icm; omega) ((insG_perm c).trans ((List.perm_ext_iff_of_nodup hn (orb_nodup a)).2 fun x => ?_))
  rw [hm, orb_mem]
theorem dn_len (a : Nat) (c : List Int) : (dnL f H N a c).length = N := by unfold dnL; simp
theorem dn_at {a : Nat} {c : List Int} {x : Nat} (hx : x < N) : (dnL f H N a c).getD x false = (decide (loN f H x < a) || decide ((x : Int) ∈ c)) := by
  unfold dnL; rw [rg_at _ hx]
theorem dn_zero : dnL f H N 0 [] = lrep (N : Int) false := by
  unfold dnL lrep
  rw [show ((N : Int)).toNat = N by omega]
  refine (rg_ext false (by simp) fun i hi => ?_).symm
  rw [List.getD_eq_getElem?_getD, List.getElem?_replicate]
  simp [hi]
theorem dn_set {a : Nat} {c : List Int} {x : Int} (h0 : 0 ≤ x) (hx : x < (N : Int)) : lset (dnL f H N a c) x true = dnL f H N a (lapp c [x]) := by
  unfold lset dnL
  refine rg_set (by omega) ?_ fun j hj hne => ?_
  · have : ((x.toNat : Nat) : Int) ∈ lapp c [x] := List.mem_append.2 (.inr (by rw [List.mem_singleton]; omega))
    rw [decide_eq_true this, Bool.or_true]
  · congr 1
    rw [Bool.eq_iff_iff, decide_eq_true_iff, decide_eq_true_iff]
    show (j : Int) ∈ c ++ [x] ↔ _
    rw [List.mem_append, List.mem_singleton]
    exact ⟨fun h => h.elim id fun h => by omega, .inl⟩
variable (hA : Act H N f)
include hA
theorem dn_skip {a : Nat} (h : loN f H a ≠ a) : dnL f H N (a + 1) [] = dnL f H N a [] := rg_congr fun x hx => by
  have hne : loN f H x ≠ a := fun e => h (by rw [← e]; exact lo_lo hA hx)
  congr 1
  rw [Bool.eq_iff_iff, decide_eq_true_iff, decide_eq_true_iff]
  omega
theorem dn_end {a : Nat} {c : List Int} (hm : ∀ x : Int, x ∈ c ↔ ∃ k : Nat, k < N ∧ loN f H k = a ∧ x = (k : Int)) : dnL f H N a c = dnL f H N (a + 1) [] := rg_congr fun x hx => by
  rw [Bool.eq_iff_iff, Bool.or_eq_true, Bool.or_eq_true, decide_eq_true_iff, decide_eq_true_iff, decide_eq_true_iff, decide_eq_true_iff, hm]
  constructor
  · rintro (h | ⟨k, h1, h2, h3⟩)
    · exact .inl (by omega)
    · have : k = x := by omega
      subst this; exact .inl (by omega)
  · rintro (h | h)
    · rcases Nat.lt_or_ge (loN f H x) a with c | c
      · exact .inl c
      · exact .inr ⟨x, hx, by omega, rfl⟩
    · cases h
theorem dn_at0 {a : Nat} (ha : a < N) : (dnL f H N a []).getD a false = decide (loN f H a ≠ a) := by
  have := lo_lek hA (k := a)
  rw [dn_at ha, Bool.eq_iff_iff, Bool.or_eq_true, decide_eq_true_iff, decide_eq_true_iff, decide_eq_true_iff]
  constructor
  · rintro (h | h)
    · omega
    · cases h
  · intro h; exact .inl (by omega)
theorem ct_skip {a : Nat} (h : loN f H a ≠ a) : ctL f H N (a + 1) = ctL f H N a := by
  unfold ctL
  rw [fst_succ hA, if_neg h]
theorem ct_step {a : Nat} (h : loN f H a = a) : ctL f H N (a + 1) = lapp (ctL f H N a) [orbI f H N a] := by
  unfold ctL lapp
  rw [fst_succ hA, if_pos h, List.map_append]; rfl
theorem ctL_len (k : Nat) : (ctL f H N k).length ≤ k := by
  unfold ctL fstN
  rw [List.length_map]
  exact Nat.le_trans (List.length_filter_le _ _) (by simp)
end
/-! ### The two actions -/
def cosA (g : List Op3) (o : Op3) (k : Nat) : Nat := (idxO g (mulO (g.getD k zerO) (invO o))).toNat
def conA (g : List Op3) (o : Op3) (k : Nat) : Nat := (idxO g (mulO (mulO o (g.getD k zerO)) (invO o))).toNat
theorem cos_act {g h : List Op3} (hg : chkE g = 0) (hh : chkE h = 0) (hs : ∀ o ∈ h, o ∈ g) : Act h g.length (cosA g) where
  grp := hh
  lt o ho k hk := by
    obtain ⟨_, _, _, hcl⟩ := chk_grp hg
    exact (ix_in (hcl _ (g_at hk) _ (hs _ (inv_in hh ho).1))).2.2.1
  one k hk := by
    obtain ⟨hF, hnd, _, _⟩ := chk_grp hg
    unfold cosA
    rw [inv_oneO hg, (mulO_one (hF _ (g_at hk)).T).1, idx_at hnd hk]; omega
  mul a ha b hb k hk := by
    obtain ⟨_, _, _, hcl⟩ := chk_grp hg
    have h1 := hcl _ (g_at hk) _ (hs _ (inv_in hh hb).1)
    unfold cosA
    rw [(ix_in h1).2.1, inv_mulO hh ha hb, mulO_assoc]
theorem con_act {g : List Op3} (hg : chkE g = 0) : Act g g.length (conA g) where
  grp := hg
  lt o ho k hk := by
    obtain ⟨_, _, _, hcl⟩ := chk_grp hg
    exact (ix_in (hcl _ (hcl _ ho _ (g_at hk)) _ (inv_in hg ho).1)).2.2.1
  one k hk := by
    obtain ⟨hF, hnd, _, _⟩ := chk_grp hg
    unfold conA
    rw [inv_oneO hg, (mulO_one (hF _ (g_at hk)).T).2, (mulO_one (hF _ (g_at hk)).T).1, idx_at hnd hk]; omega
  mul a ha b hb k hk := by
    obtain ⟨_, _, _, hcl⟩ := chk_grp hg
    have h1 := hcl _ (hcl _ hb _ (g_at hk)) _ (inv_in hg hb).1
    unfold conA
    rw [(ix_in h1).2.1, inv_mulO hg ha hb]
    simp only [mulO_assoc]
/-- The places of a h. -/
theorem cos_mem {g h : List Op3} (hg : chkE g = 0) (hh : chkE h = 0) (hs : ∀ o ∈ h, o ∈ g) {a : Nat} (ha : a < g.length) (x : Int) :
    (x ∈ h.map fun b => idxO g (mulO (g.getD a zerO) b)) ↔ ∃ k : Nat, k < g.length ∧ loN (cosA g) h k = loN (cosA g) h a ∧ x = (k : Int) := by
  have hA := cos_act hg hh hs
  obtain ⟨_, _, _, hcl⟩ := chk_grp hg
  rw [List.mem_map]
  constructor
  · rintro ⟨b, hb, rfl⟩
    obtain ⟨_, _, k1, k2⟩ := ix_in (hcl _ (g_at ha) _ (hs b hb))
    refine ⟨_, k1, ?_, k2.symm⟩
    obtain ⟨b1, _, _, b4⟩ := inv_in hh hb
    refine (lo_iff hA ha k1).2 (List.mem_map.2 ⟨invO b, b1, ?_⟩)
    unfold cosA
    rw [b4]
  · rintro ⟨k, h1, h2, rfl⟩
    obtain ⟨o, ho, e⟩ := List.mem_map.1 ((lo_iff hA ha h1).1 h2)
    refine ⟨invO o, (inv_in hh ho).1, ?_⟩
    rw [← e]
    exact (ix_in (hcl _ (g_at ha) _ (hs _ (inv_in hh ho).1))).2.2.2.symm
theorem cos_nodup {g h : List Op3} (hg : chkE g = 0) (hh : chkE h = 0) (hs : ∀ o ∈ h, o ∈ g) {a : Op3} (ha : a ∈ g) : (h.map fun b => idxO g (mulO a b)).Nodup := by
  obtain ⟨_, _, _, hcl⟩ := chk_grp hg
  exact nodup_map (chk_grp hh).2.1 fun x hx y hy e => mul_cancel hg ha (hs x hx) (hs y hy) (idxO_inj (hcl _ ha _ (hs x hx)) (hcl _ ha _ (hs y hy)) e)
theorem con_mem {g : List Op3} (hg : chkE g = 0) {b : Nat} (hb : b < g.length) (x : Int) :
    (∃ o ∈ g, x = idxO g (mulO (mulO o (g.getD b zerO)) (invO o))) ↔ ∃ k : Nat, k < g.length ∧ loN (conA g) g k = loN (conA g) g b ∧ x = (k : Int) := by
  have hA := con_act hg
  obtain ⟨_, _, _, hcl⟩ := chk_grp hg
  have hin : ∀ o ∈ g, mulO (mulO o (g.getD b zerO)) (invO o) ∈ g := fun o ho => hcl _ (hcl _ ho _ (g_at hb)) _ (inv_in hg ho).1
  constructor
  · rintro ⟨o, ho, rfl⟩
    obtain ⟨_, _, k1, k2⟩ := ix_in (hin o ho)
    exact ⟨_, k1, (lo_iff hA hb k1).2 (List.mem_map.2 ⟨o, ho, rfl⟩), k2.symm⟩
  · rintro ⟨k, h1, h2, rfl⟩
    obtain ⟨o, ho, e⟩ := List.mem_map.1 ((lo_iff hA hb h1).1 h2)
    refine ⟨o, ho, ?_⟩
    rw [← e]
    exact (ix_in (hin o ho)).2.2.2
end Go.Fx
