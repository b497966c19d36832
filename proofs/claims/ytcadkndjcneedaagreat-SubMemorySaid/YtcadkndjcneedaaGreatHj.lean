/-
  Layer 6 in Lean: the document's answers.
-/
import Derived.Test.YtcadkndjcneedaaGreatHd
set_option linter.unusedSimpArgs false
set_option linter.unusedVariables false
set_option linter.unusedSectionVars false
namespace Go.Fx
open Go
theorem r6_two {g h : List Op3} {a b : Int} (ha : a = chkE g) (hb : b = chkE h) : (a = 0 → b = two g h) ∧ (a ≠ 0 → (b ≠ 0 → (b < a → b = two g h) ∧ (¬ b < a → a = two g h)) ∧ (b = 0 → a = two g h)) := by
  rw [two_eq, ← ha, ← hb]
  unfold lsF
  refine ⟨fun h => by rw [if_pos (.inl h)], fun h => ⟨fun h2 => ⟨fun h3 => by rw [if_pos (.inr ⟨h2, h3⟩)], fun h3 => by rw [if_neg (fun c => c.elim h fun c => h3 c.2)]⟩, fun h2 => by rw [if_neg (fun c => c.elim h fun c => c.1 h2)]⟩⟩
def r6wI (g h : List Op3) (i : Int) : Prop := (0 ≤ i ∧ i ≤ (h.length : Int)) ∧ ∀ o ∈ h.take i.toNat, o ∈ g
theorem r6w_0 (g h : List Op3) : r6wI g h 0 := ⟨⟨Int.le_refl _, by omega⟩, fun o ho => by simp at ho⟩
theorem r6w_next {g h : List Op3} {i : Int} (hb : h.length * 96 ≤ room) (hI : r6wI g h i) (hi : i < (h.length : Int)) (hm : h.getD i.toNat zerO ∈ g) :
    r6wI g h (w64 (i + 1)) ∧ (decide (0 ≤ opMu h (w64 (i + 1))) = true ∧ decide (opMu h (w64 (i + 1)) < opMu h i) = true) := by
  obtain ⟨⟨h1, h2⟩, h3⟩ := hI
  obtain ⟨e1, e2, e3⟩ := opMu_next hb h1 hi
  refine ⟨?_, e2, e3⟩
  rw [e1]
  refine ⟨⟨by omega, by omega⟩, fun o ho => ?_⟩
  rw [take_succ h1 hi zerO, List.mem_append, List.mem_singleton] at ho
  rcases ho with ho | ho
  · exact h3 o ho
  · rw [ho]; exact hm
theorem r6w_end {g h : List Op3} {i : Int} (hI : r6wI g h i) (hi : ¬ i < (h.length : Int)) : wiB g h = true := wi_iff.2 fun o ho => hI.2 o (by rw [take_end hi]; exact ho)
/-! ### Squares -/
def n192 (n : Int) : Prop := 0 ≤ n ∧ n ≤ 192
def mtB (N : Nat) (p : Nat → Nat → Bool) : List (List Bool) := (List.range N).map fun i => (List.range N).map fun j => p i j
def sqB (n : Int) : List (List Bool) := mtB n.toNat fun _ _ => false
def sqI (n : Int) (l : List (List Bool)) (i : Int) : Prop := (0 ≤ i ∧ i ≤ n) ∧ l = (List.range n.toNat).map fun k => if k < i.toNat then lrep n false else []
def cuM (n i : Int) : Int := n - i
theorem cuM_next {n i : Int} (hn : n ≤ 192) (h0 : 0 ≤ i) (hi : i < n) : w64 (i + 1) = i + 1 ∧ decide (0 ≤ cuM n (i + 1)) = true ∧ decide (cuM n (i + 1) < cuM n i) = true :=
  ⟨w64_id (by omega) (by omega), decide_eq_true (by unfold cuM; omega), decide_eq_true (by unfold cuM; omega)⟩
theorem sq_0 {n : Int} (hn : n192 n) : sqI n (lrep n []) 0 := ⟨⟨Int.le_refl _, hn.1⟩, rg_ext [] (by simp [lrep]) fun i hi => by
  rw [if_neg (by simp)]
  unfold lrep
  rw [List.getD_eq_getElem?_getD, List.getElem?_replicate]
  simp [hi]⟩
theorem sq_next {n : Int} {l : List (List Bool)} {i : Int} (hn : n192 n) (h : sqI n l i) (hi : i < n) :
    inB l i ∧ sqI n (lset l i (lrep n false)) (w64 (i + 1)) ∧ (decide (0 ≤ cuM n (w64 (i + 1))) = true ∧ decide (cuM n (w64 (i + 1)) < cuM n i) = true) := by
  obtain ⟨⟨h1, h2⟩, h3⟩ := h
  obtain ⟨e1, e2, e3⟩ := cuM_next hn.2 h1 hi
  rw [e1]
  refine ⟨⟨h1, by rw [h3]; simp; omega⟩, ⟨⟨by omega, by omega⟩, ?_⟩, e2, e3⟩
  rw [h3]
  unfold lset
  refine rg_set (by omega) (if_pos (by omega)) fun j hj hne => ?_
  by_cases c : j < i.toNat
  · rw [if_pos c, if_pos (by omega)]
  · rw [if_neg c, if_neg (by omega)]
theorem sq_end {n : Int} {l : List (List Bool)} {i : Int} (hn : n192 n) (h : sqI n l i) (hi : ¬ i < n) : l = sqB n := by
  obtain ⟨⟨h1, h2⟩, h3⟩ := h
  rw [h3]
  refine rg_congr fun k hk => ?_
  rw [if_pos (by omega)]
  unfold lrep
  refine rg_ext false (by simp) fun j hj => ?_
  rw [List.getD_eq_getElem?_getD, List.getElem?_replicate]
  simp [hj]
theorem mt_row {N : Nat} {p : Nat → Nat → Bool} {i : Nat} (hi : i < N) : (mtB N p).getD i [] = (List.range N).map fun j => p i j := by
  unfold mtB; rw [rg_at _ hi]
theorem mt_at {N : Nat} {p : Nat → Nat → Bool} {i j : Int} (i0 : 0 ≤ i) (hi : i < (N : Int)) (j0 : 0 ≤ j) (hj : j < (N : Int)) : inB (mtB N p) i ∧ inB ((mtB N p).getD i.toNat []) j ∧ ((mtB N p).getD i.toNat []).getD j.toNat false = p i.toNat j.toNat := by
  rw [mt_row (by omega), rg_at _ (by omega)]
  exact ⟨⟨i0, by simp [mtB]; omega⟩, ⟨j0, by simp; omega⟩, rfl⟩
theorem mt_congr {N : Nat} {p q : Nat → Nat → Bool} (h : ∀ i, i < N → ∀ j, j < N → p i j = q i j) : mtB N p = mtB N q := rg_congr fun i hi => rg_congr fun j hj => h i hi j hj
theorem mt_set {N : Nat} {p q : Nat → Nat → Bool} {i j : Int} {v : Bool} (i0 : 0 ≤ i) (hi : i < (N : Int)) (j0 : 0 ≤ j) (hj : j < (N : Int)) (h1 : q i.toNat j.toNat = v) (h2 : ∀ x, x < N → ∀ y, y < N → (x ≠ i.toNat ∨ y ≠ j.toNat) → q x y = p x y) :
    lset (mtB N p) i (lset ((mtB N p).getD i.toNat []) j v) = mtB N q := by
  rw [mt_row (by omega)]
  unfold lset
  refine rg_set (by omega) ?_ fun x hx hne => rg_congr fun y hy => h2 x hx y hy (.inl hne)
  exact (rg_set (by omega) h1 fun y hy hne => h2 _ (by omega) y hy (.inr hne)).symm
/-! ### Cuts by what is alike -/
def cuP (n : Int) (a : List (List Bool)) : Prop := n192 n ∧ ∃ p : Nat → Nat → Bool, a = mtB n.toNat p
def cuB (a : List (List Bool)) (i j : Nat) : Bool := (a.getD i []).getD j false
def cuH (a : List (List Bool)) (i : Nat) : Bool := (List.range i).all fun j => !cuB a j i
def cuR (a : List (List Bool)) (i k : Nat) : List Int := ((List.range k).filter fun j => decide (i ≤ j) && cuB a i j).map fun j : Nat => (j : Int)
def cuL (n : Int) (a : List (List Bool)) : List (List Int) := ((List.range n.toNat).filter (cuH a)).map fun i => cuR a i n.toNat
def cuO (n : Int) (a : List (List Bool)) (r : List (List Int)) (i : Int) : Prop := (0 ≤ i ∧ i ≤ n) ∧ r = ((List.range i.toNat).filter (cuH a)).map fun i => cuR a i n.toNat
def cuF (a : List (List Bool)) (i : Int) (b : Bool) (j : Int) : Prop := (0 ≤ j ∧ j ≤ i) ∧ b = (List.range j.toNat).all fun j => !cuB a j i.toNat
def cuI (n : Int) (a : List (List Bool)) (i : Int) (c : List Int) (j : Int) : Prop := (i ≤ j ∧ j ≤ n) ∧ c = cuR a i.toNat j.toNat
theorem rg_succ (i : Int) (h : 0 ≤ i) : List.range (i + 1).toNat = List.range i.toNat ++ [i.toNat] := by
  rw [show (i + 1).toNat = i.toNat + 1 by omega, List.range_succ]
theorem cuO_0 {n : Int} {a : List (List Bool)} (hn : n192 n) : cuO n a [] 0 := ⟨⟨Int.le_refl _, hn.1⟩, rfl⟩
theorem cuF_0 {a : List (List Bool)} {i : Int} (h : 0 ≤ i) : cuF a i true 0 := ⟨⟨Int.le_refl _, h⟩, rfl⟩
theorem cuF_next {n : Int} {a : List (List Bool)} {i j : Int} {b : Bool} (hP : cuP n a) (hi : i < n) (h : cuF a i b j) (hj : j < i) :
    inB a j ∧ inB (a.getD j.toNat []) i ∧ ((a.getD j.toNat []).getD i.toNat false = true → cuF a i false (w64 (j + 1))) ∧ ((a.getD j.toNat []).getD i.toNat false = false → cuF a i b (w64 (j + 1))) ∧
    (decide (0 ≤ cuM i (w64 (j + 1))) = true ∧ decide (cuM i (w64 (j + 1)) < cuM i j) = true) := by
  obtain ⟨hn, p, hp⟩ := hP
  obtain ⟨⟨j0, j1⟩, hb⟩ := h
  have n0 := hn.1; have n1 := hn.2
  obtain ⟨e1, e2, e3⟩ := cuM_next (n := i) (by omega) j0 hj
  rw [e1]
  obtain ⟨m1, m2, _⟩ := mt_at (N := n.toNat) (p := p) (i := j) (j := i) j0 (by omega) (by omega) (by omega)
  rw [← hp] at m1 m2
  refine ⟨m1, m2, fun hc => ⟨⟨by omega, by omega⟩, ?_⟩, fun hc => ⟨⟨by omega, by omega⟩, ?_⟩, e2, e3⟩
  · have hc : cuB a j.toNat i.toNat = true := hc
    rw [rg_succ j j0, List.all_append, List.all_cons, hc]; simp
  · have hc : cuB a j.toNat i.toNat = false := hc
    rw [rg_succ j j0, List.all_append, List.all_cons, hc, ← hb]; simp
theorem cuF_end {a : List (List Bool)} {i j : Int} {b : Bool} (h : cuF a i b j) (hj : ¬ j < i) : b = cuH a i.toNat := by
  obtain ⟨⟨j0, j1⟩, hb⟩ := h
  rw [hb, show j.toNat = i.toNat by omega]; rfl
theorem cuO_skip {n : Int} {a : List (List Bool)} {r : List (List Int)} {i : Int} (hn : n192 n) (h : cuO n a r i) (hi : i < n) (hc : cuH a i.toNat = false) :
    cuO n a r (w64 (i + 1)) ∧ (decide (0 ≤ cuM n (w64 (i + 1))) = true ∧ decide (cuM n (w64 (i + 1)) < cuM n i) = true) := by
  obtain ⟨⟨h1, h2⟩, h3⟩ := h
  obtain ⟨e1, e2, e3⟩ := cuM_next hn.2 h1 hi
  rw [e1]
  refine ⟨⟨⟨by omega, by omega⟩, ?_⟩, e2, e3⟩
  rw [rg_succ i h1, fil_snoc, if_neg (by rw [hc]; decide), h3]
theorem cuI_0 {n : Int} {a : List (List Bool)} {i : Int} (h0 : 0 ≤ i) (hi : i < n) : cuI n a i [] i := ⟨⟨Int.le_refl _, by omega⟩, by
  unfold cuR
  rw [List.filter_eq_nil_iff.2 fun j hj => by
    have := List.mem_range.1 hj
    rw [decide_eq_false (by omega)]; simp]
  rfl⟩
theorem cuI_next {n : Int} {a : List (List Bool)} {i j : Int} {c : List Int} (hP : cuP n a) (i0 : 0 ≤ i) (hi : i < n) (h : cuI n a i c j) (hj : j < n) :
    inB a i ∧ inB (a.getD i.toNat []) j ∧ ((a.getD i.toNat []).getD j.toNat false = true → lfit 8 (lapp c [j]) ∧ cuI n a i (lapp c [j]) (w64 (j + 1))) ∧ ((a.getD i.toNat []).getD j.toNat false = false → cuI n a i c (w64 (j + 1))) ∧
    (decide (0 ≤ cuM n (w64 (j + 1))) = true ∧ decide (cuM n (w64 (j + 1)) < cuM n j) = true) := by
  obtain ⟨hn, p, hp⟩ := hP
  obtain ⟨⟨j0, j1⟩, hc⟩ := h
  have n0 := hn.1; have n1 := hn.2
  obtain ⟨e1, e2, e3⟩ := cuM_next hn.2 (by omega) hj
  rw [e1]
  obtain ⟨m1, m2, _⟩ := mt_at (N := n.toNat) (p := p) (i := i) (j := j) i0 (by omega) (by omega) (by omega)
  rw [← hp] at m1 m2
  have hl : c.length ≤ j.toNat := by
    rw [hc]
    unfold cuR
    rw [List.length_map]
    exact Nat.le_trans (List.length_filter_le _ _) (by simp)
  refine ⟨m1, m2, fun hb => ⟨?_, ⟨by omega, by omega⟩, ?_⟩, fun hb => ⟨⟨by omega, by omega⟩, ?_⟩, e2, e3⟩
  · show (c ++ [j]).length * 8 ≤ 140737488355328
    rw [List.length_append, List.length_singleton]; omega
  · have hb : cuB a i.toNat j.toNat = true := hb
    unfold cuR
    rw [rg_succ j (by omega), fil_snoc, if_pos (by rw [hb, decide_eq_true (by omega)]; rfl), List.map_append, hc]
    show cuR a i.toNat j.toNat ++ [j] = _
    unfold cuR
    simp only [List.map_cons, List.map_nil]
    rw [show ((j.toNat : Nat) : Int) = j by omega]
  · have hb : cuB a i.toNat j.toNat = false := hb
    unfold cuR
    rw [rg_succ j (by omega), fil_snoc, if_neg (by rw [hb]; simp), hc]; rfl
theorem cuO_add {n : Int} {a : List (List Bool)} {r : List (List Int)} {c : List Int} {i j : Int} (hn : n192 n) (h : cuO n a r i) (hi : i < n) (hc : cuH a i.toNat = true) (hI : cuI n a i c j) (hj : ¬ j < n) :
    lfit 24 (lapp r [c]) ∧ cuO n a (lapp r [c]) (w64 (i + 1)) ∧ (decide (0 ≤ cuM n (w64 (i + 1))) = true ∧ decide (cuM n (w64 (i + 1)) < cuM n i) = true) := by
  obtain ⟨⟨h1, h2⟩, h3⟩ := h
  obtain ⟨e1, e2, e3⟩ := cuM_next hn.2 h1 hi
  have n1 := hn.2
  rw [e1]
  refine ⟨?_, ⟨⟨by omega, by omega⟩, ?_⟩, e2, e3⟩
  · show (r ++ [c]).length * 24 ≤ 140737488355328
    have : r.length ≤ i.toNat := by
      rw [h3, List.length_map]
      exact Nat.le_trans (List.length_filter_le _ _) (by simp)
    rw [List.length_append, List.length_singleton]; omega
  · rw [rg_succ i h1, fil_snoc, if_pos hc, List.map_append, h3]
    have : c = cuR a i.toNat n.toNat := by
      rw [hI.2, show j.toNat = n.toNat by have := hI.1; omega]
    rw [this]; rfl
theorem cuO_end {n : Int} {a : List (List Bool)} {r : List (List Int)} {i : Int} (h : cuO n a r i) (hi : ¬ i < n) : r = cuL n a := by
  obtain ⟨⟨h1, h2⟩, h3⟩ := h
  rw [h3, show i.toNat = n.toNat by omega]; rfl
/-- Cut by 'one orbit': the orbits. -/
theorem cu_ct {f : Op3 → Nat → Nat} {H : List Op3} {N : Nat} (hA : Act H N f) {p : Nat → Nat → Bool} (hp : ∀ i, i < N → ∀ j, j < N → p i j = decide (loN f H i = loN f H j)) : cuL (N : Int) (mtB N p) = ctL f H N N := by
  have hb : ∀ i, i < N → ∀ j, j < N → cuB (mtB N p) i j = decide (loN f H i = loN f H j) := fun i hi j hj => by
    unfold cuB
    rw [mt_row hi, rg_at _ hj, hp i hi j hj]
  unfold cuL ctL fstN
  rw [show ((N : Int)).toNat = N by omega]
  have e1 : (List.range N).filter (cuH (mtB N p)) = (List.range N).filter (isF f H) := by
    apply List.filter_congr
    intro i hi
    have hi := List.mem_range.1 hi
    unfold cuH isF
    rw [Bool.eq_iff_iff, List.all_eq_true, decide_eq_true_iff]
    constructor
    · intro h
      refine Classical.byContradiction fun hn => ?_
      have hl := lo_lek hA (k := i)
      have h1 := h (loN f H i) (List.mem_range.2 (by omega))
      rw [hb _ (by omega) _ hi, lo_lo hA hi, decide_eq_true rfl] at h1
      cases h1
    · intro h j hj
      have hj := List.mem_range.1 hj
      rw [hb j (by omega) i hi, decide_eq_false (fun e => by have := lo_lek hA (k := j); omega)]; rfl
  rw [e1]
  apply List.map_congr_left
  intro i hi
  have hi2 := List.mem_filter.1 hi
  have hiN := List.mem_range.1 hi2.1
  have hl : loN f H i = i := of_decide_eq_true hi2.2
  unfold cuR orbI
  congr 1
  apply List.filter_congr
  intro j hj
  have hj := List.mem_range.1 hj
  have := lo_lek hA (k := j)
  rw [hb i hiN j hj, hl, Bool.eq_iff_iff, Bool.and_eq_true, decide_eq_true_iff, decide_eq_true_iff, decide_eq_true_iff]
  exact ⟨fun h => h.2.symm, fun h => ⟨by omega, h.symm⟩⟩
/-! ### DocCosets -/
def dcQ (g h : List Op3) (x y : Nat) : Bool := memO h (mulO (invO (g.getD x zerO)) (g.getD y zerO))
def dcO (g h : List Op3) (a : List (List Bool)) (i : Int) : Prop := (0 ≤ i ∧ i ≤ (g.length : Int)) ∧ a = mtB g.length fun x y => decide (x < i.toNat) && dcQ g h x y
def dcI (g h : List Op3) (i : Int) (a : List (List Bool)) (j : Int) : Prop := (0 ≤ j ∧ j ≤ (g.length : Int)) ∧ a = mtB g.length fun x y => (decide (x < i.toNat) || (decide (x = i.toNat) && decide (y < j.toNat))) && dcQ g h x y
theorem dc_0 (g h : List Op3) : dcO g h (sqB (g.length : Int)) 0 := ⟨⟨Int.le_refl _, by omega⟩, by
  unfold sqB
  rw [show ((g.length : Int)).toNat = g.length by omega]
  exact mt_congr fun i hi j hj => by simp⟩
theorem dc_in {g h : List Op3} {a : List (List Bool)} {i : Int} (hO : dcO g h a i) : dcI g h i a 0 := ⟨⟨Int.le_refl _, by omega⟩, by rw [hO.2]; exact mt_congr fun i hi j hj => by simp⟩
theorem dc_next {g h : List Op3} {a : List (List Bool)} {i j : Int} (hb : g.length * 96 ≤ room) (i0 : 0 ≤ i) (hi : i < (g.length : Int)) (hI : dcI g h i a j) (hj : j < (g.length : Int)) :
    inB a i ∧ inB (a.getD i.toNat []) j ∧ dcI g h i (lset a i (lset (a.getD i.toNat []) j (memO h (mulO (invO (g.getD i.toNat zerO)) (g.getD j.toNat zerO))))) (w64 (j + 1)) ∧ (decide (0 ≤ opMu g (w64 (j + 1))) = true ∧ decide (opMu g (w64 (j + 1)) < opMu g j) = true) := by
  obtain ⟨⟨j0, j1⟩, ha⟩ := hI
  obtain ⟨e1, e2, e3⟩ := opMu_next hb j0 hj
  obtain ⟨m1, m2, _⟩ := mt_at (N := g.length) (p := fun x y => (decide (x < i.toNat) || (decide (x = i.toNat) && decide (y < j.toNat))) && dcQ g h x y) i0 hi j0 hj
  rw [← ha] at m1 m2
  refine ⟨m1, m2, ?_, e2, e3⟩
  rw [e1]
  refine ⟨⟨by omega, by omega⟩, ?_⟩
  rw [ha]
  refine mt_set i0 hi j0 hj ?_ fun x hx y hy hne => ?_
  · rw [decide_eq_true (rfl : i.toNat = i.toNat), decide_eq_true (show j.toNat < (j + 1).toNat by omega)]; simp [dcQ]
  · congr 1
    by_cases c : x = i.toNat
    · subst c
      have hy2 : y ≠ j.toNat := hne.elim (fun h => absurd rfl h) id
      congr 2
      rw [Bool.eq_iff_iff, decide_eq_true_iff, decide_eq_true_iff]
      omega
    · rw [decide_eq_false c]; simp
theorem dc_out {g h : List Op3} {a : List (List Bool)} {i j : Int} (hb : g.length * 96 ≤ room) (i0 : 0 ≤ i) (hi : i < (g.length : Int)) (hI : dcI g h i a j) (hj : ¬ j < (g.length : Int)) :
    dcO g h a (w64 (i + 1)) ∧ (decide (0 ≤ opMu g (w64 (i + 1))) = true ∧ decide (opMu g (w64 (i + 1)) < opMu g i) = true) := by
  obtain ⟨e1, e2, e3⟩ := opMu_next hb i0 hi
  refine ⟨?_, e2, e3⟩
  rw [e1]
  refine ⟨⟨by omega, by omega⟩, ?_⟩
  rw [hI.2]
  refine mt_congr fun x hx y hy => ?_
  congr 1
  have := hI.1
  rw [Bool.eq_iff_iff]
  simp only [Bool.or_eq_true, Bool.and_eq_true, decide_eq_true_eq]
  omega
theorem dc_end {g h : List Op3} {a : List (List Bool)} {i : Int} (hz : boE g h = 0) (hO : dcO g h a i) (hi : ¬ i < (g.length : Int)) : cuP (g.length : Int) a ∧ cuL (g.length : Int) a = csC g h := by
  obtain ⟨hg, hh, hs, _, _⟩ := bo_zero hz
  have h192 := chk_len hg
  refine ⟨⟨⟨by omega, by omega⟩, _, by rw [hO.2, show ((g.length : Int)).toNat = g.length by omega]⟩, ?_⟩
  have hA := cos_act hg hh hs
  obtain ⟨hF, _, _, hcl⟩ := chk_grp hg
  rw [hO.2, csC_eq hg hh hs]
  refine cu_ct hA fun x hx y hy => ?_
  rw [decide_eq_true (show x < i.toNat by have := hO.1; omega), Bool.true_and]
  unfold dcQ
  have gx := g_at hx
  have gy := g_at hy
  obtain ⟨i1, i2, i3, _⟩ := inv_in hg gx
  rw [Bool.eq_iff_iff, memO_iff, decide_eq_true_iff]
  have hm := cos_mem hg hh hs hx (y : Int)
  constructor
  · intro h1
    have : ((y : Nat) : Int) ∈ h.map fun b => idxO g (mulO (g.getD x zerO) b) := List.mem_map.2 ⟨_, h1, by
      rw [← mulO_assoc, i2, (mulO_one (hF _ gy).T).2, idx_at (chk_grp hg).2.1 hy]⟩
    obtain ⟨k, k1, k2, k3⟩ := hm.1 this
    have : y = k := by omega
    subst this; exact k2.symm
  · intro h1
    obtain ⟨b, hb, e⟩ := List.mem_map.1 (hm.2 ⟨y, hy, h1.symm, rfl⟩)
    have e2 : mulO (g.getD x zerO) b = g.getD y zerO := idxO_inj (hcl _ gx _ (hs b hb)) gy (e.trans (idx_at (chk_grp hg).2.1 hy).symm)
    rw [← e2, ← mulO_assoc, i3, (mulO_one (hF _ (hs b hb)).T).2]
    exact hb
/-! ### DocClasses -/
def dkO (g : List Op3) (a : List (List Bool)) (i : Int) : Prop := (0 ≤ i ∧ i ≤ (g.length : Int)) ∧ a = mtB g.length fun x y => decide (y ∈ imgN (conA g) (g.take i.toNat) x)
def dkI (g : List Op3) (i : Int) (a : List (List Bool)) (j : Int) : Prop := (0 ≤ j ∧ j ≤ (g.length : Int)) ∧ a = mtB g.length fun x y => decide (y ∈ imgN (conA g) (g.take i.toNat) x) || (decide (x < j.toNat) && decide (y = conA g (g.getD i.toNat zerO) x))
theorem dk_0 (g : List Op3) : dkO g (sqB (g.length : Int)) 0 := ⟨⟨Int.le_refl _, by omega⟩, by
  unfold sqB
  rw [show ((g.length : Int)).toNat = g.length by omega]
  exact mt_congr fun i hi j hj => by simp [imgN]⟩
theorem dk_in {g : List Op3} {a : List (List Bool)} {i : Int} (hO : dkO g a i) : dkI g i a 0 := ⟨⟨Int.le_refl _, by omega⟩, by rw [hO.2]; exact mt_congr fun i hi j hj => by simp⟩
theorem dk_next {g : List Op3} {a : List (List Bool)} {i j : Int} (hg : chkE g = 0) (hb : g.length * 96 ≤ room) (i0 : 0 ≤ i) (hi : i < (g.length : Int)) (hI : dkI g i a j) (hj : j < (g.length : Int)) {v : Int} (hv : v = idxO g (mulO (mulO (g.getD i.toNat zerO) (g.getD j.toNat zerO)) (invO (g.getD i.toNat zerO)))) :
    0 ≤ v ∧ inB a j ∧ inB (a.getD j.toNat []) v ∧ dkI g i (lset a j (lset (a.getD j.toNat []) v true)) (w64 (j + 1)) ∧ (decide (0 ≤ opMu g (w64 (j + 1))) = true ∧ decide (opMu g (w64 (j + 1)) < opMu g j) = true) := by
  obtain ⟨⟨j0, j1⟩, ha⟩ := hI
  obtain ⟨e1, e2, e3⟩ := opMu_next hb j0 hj
  obtain ⟨_, _, _, hcl⟩ := chk_grp hg
  have gi := getD_mem i0 hi zerO
  have gj := getD_mem j0 hj zerO
  have hm := ix_in (hcl _ (hcl _ gi _ gj) _ (inv_in hg gi).1)
  rw [← hv] at hm
  obtain ⟨m1, m2, _⟩ := mt_at (N := g.length) (p := fun x y => decide (y ∈ imgN (conA g) (g.take i.toNat) x) || (decide (x < j.toNat) && decide (y = conA g (g.getD i.toNat zerO) x))) j0 hj hm.1.1 hm.1.2
  rw [← ha] at m1 m2
  refine ⟨hm.1.1, m1, m2, ?_, e2, e3⟩
  rw [e1]
  refine ⟨⟨by omega, by omega⟩, ?_⟩
  have hcv : conA g (g.getD i.toNat zerO) j.toNat = v.toNat := by unfold conA; rw [← hv]
  rw [ha]
  refine mt_set j0 hj hm.1.1 hm.1.2 ?_ fun x hx y hy hne => ?_
  · rw [hcv, decide_eq_true (show j.toNat < (j + 1).toNat by omega), decide_eq_true rfl]; simp
  · congr 1
    by_cases c : x = j.toNat
    · subst c
      have hy2 : y ≠ v.toNat := hne.elim (fun h => absurd rfl h) id
      rw [hcv, decide_eq_false hy2]; simp
    · congr 1
      rw [Bool.eq_iff_iff, decide_eq_true_iff, decide_eq_true_iff]
      omega
theorem dk_out {g : List Op3} {a : List (List Bool)} {i j : Int} (hb : g.length * 96 ≤ room) (i0 : 0 ≤ i) (hi : i < (g.length : Int)) (hI : dkI g i a j) (hj : ¬ j < (g.length : Int)) :
    dkO g a (w64 (i + 1)) ∧ (decide (0 ≤ opMu g (w64 (i + 1))) = true ∧ decide (opMu g (w64 (i + 1)) < opMu g i) = true) := by
  obtain ⟨e1, e2, e3⟩ := opMu_next hb i0 hi
  refine ⟨?_, e2, e3⟩
  rw [e1]
  refine ⟨⟨by omega, by omega⟩, ?_⟩
  rw [hI.2]
  refine mt_congr fun x hx y hy => ?_
  have := hI.1
  rw [take_succ i0 hi zerO, decide_eq_true (show x < j.toNat by omega), Bool.true_and, Bool.eq_iff_iff, Bool.or_eq_true, decide_eq_true_iff, decide_eq_true_iff, decide_eq_true_iff]
  unfold imgN
  rw [List.map_append, List.mem_append]
  simp only [List.map_cons, List.map_nil, List.mem_singleton]
theorem dk_end {g : List Op3} {a : List (List Bool)} {i : Int} (hg : chkE g = 0) (hO : dkO g a i) (hi : ¬ i < (g.length : Int)) : cuP (g.length : Int) a ∧ cuL (g.length : Int) a = clC g := by
  have h192 := chk_len hg
  refine ⟨⟨⟨by omega, by omega⟩, _, by rw [hO.2, show ((g.length : Int)).toNat = g.length by omega]⟩, ?_⟩
  have hA := con_act hg
  rw [hO.2, clC_eq hg, take_end hi]
  refine cu_ct hA fun x hx y hy => ?_
  rw [Bool.eq_iff_iff, decide_eq_true_iff, decide_eq_true_iff, ← lo_iff hA hx hy]
  exact ⟨fun h => h.symm, fun h => h.symm⟩
/-! ### DocNormal -/
def dnO (g h : List Op3) (i : Int) : Prop := (0 ≤ i ∧ i ≤ (g.length : Int)) ∧ ∀ a ∈ g.take i.toNat, ∀ b ∈ h, mulO (mulO a b) (invO a) ∈ h
def dnI (g h : List Op3) (i j : Int) : Prop := (0 ≤ j ∧ j ≤ (h.length : Int)) ∧ ∀ b ∈ h.take j.toNat, mulO (mulO (g.getD i.toNat zerO) b) (invO (g.getD i.toNat zerO)) ∈ h
/-! ### DocHeart -/
def dhC (i : Int) (c : List Int) : Bool := decide ((c.length : Int) = 1) && decide (c.getD 0 0 = i)
def dhO (g l : List Op3) (i : Int) : Prop := (0 ≤ i ∧ i ≤ (g.length : Int)) ∧ l = (g.take i.toNat).filter (heA g)
def dhI (g : List Op3) (i : Int) (l : List Op3) (j : Int) : Prop := (0 ≤ j ∧ j ≤ ((clC g).length : Int)) ∧ l = (g.take i.toNat).filter (heA g) ++ if ((clC g).take j.toNat).any (dhC i) = true then [g.getD i.toNat zerO] else []
theorem dh_0 (g : List Op3) : dhO g [] 0 := ⟨⟨Int.le_refl _, by omega⟩, by simp⟩
theorem dh_in {g l : List Op3} {i : Int} (hO : dhO g l i) : dhI g i l 0 := ⟨⟨Int.le_refl _, by omega⟩, by rw [hO.2]; simp⟩
theorem dh_any {g : List Op3} (hg : chkE g = 0) {i : Int} (i0 : 0 ≤ i) (hi : i < (g.length : Int)) : (clC g).any (dhC i) = heA g (g.getD i.toNat zerO) := by
  have hA := con_act hg
  rw [Bool.eq_iff_iff, List.any_eq_true, ← alone_iff hg (show i.toNat < g.length by omega), clC_eq hg]
  unfold dhC
  constructor
  · rintro ⟨c, hc, h⟩
    obtain ⟨a, ha, rfl⟩ := List.mem_map.1 hc
    obtain ⟨a1, a2⟩ := (fst_mem hA).1 ha
    rw [Bool.and_eq_true, decide_eq_true_iff, decide_eq_true_iff, (orb_head a1 a2).1] at h
    have e : i.toNat = a := by omega
    rw [e]
    exact ⟨a2, by omega⟩
  · rintro ⟨h1, h2⟩
    refine ⟨_, List.mem_map.2 ⟨i.toNat, (fst_mem hA).2 ⟨by omega, h1⟩, rfl⟩, ?_⟩
    rw [Bool.and_eq_true, decide_eq_true_iff, decide_eq_true_iff, (orb_head (by omega) h1).1]
    omega
theorem dh_next {g l : List Op3} (hg : chkE g = 0) {i j : Int} (i0 : 0 ≤ i) (hi : i < (g.length : Int)) (hI : dhI g i l j) (hj : j < ((clC g).length : Int)) :
    inB ((clC g).getD j.toNat []) 0 ∧ (dhC i ((clC g).getD j.toNat []) = true → lfit 96 (lapp l [g.getD i.toNat zerO]) ∧ dhI g i (lapp l [g.getD i.toNat zerO]) (w64 (j + 1))) ∧ (dhC i ((clC g).getD j.toNat []) = false → dhI g i l (w64 (j + 1))) ∧
    (decide (0 ≤ liMu (clC g) (w64 (j + 1))) = true ∧ decide (liMu (clC g) (w64 (j + 1)) < liMu (clC g) j) = true) := by
  obtain ⟨⟨j0, j1⟩, hl⟩ := hI
  have hP := clC_pa hg
  have hn := hP.1
  have hw : w64 (j + 1) = j + 1 := w64_id (by omega) (by omega)
  rw [hw]
  have hfl : ((g.take i.toNat).filter (heA g)).length ≤ 192 := Nat.le_trans (List.length_filter_le _ _) (by rw [List.length_take]; omega)
  refine ⟨(pa_at hP j0 hj).2.1, fun hc => ⟨?_, ⟨by omega, by omega⟩, ?_⟩, fun hc => ⟨⟨by omega, by omega⟩, ?_⟩, decide_eq_true (by unfold liMu; omega), decide_eq_true (by unfold liMu; omega)⟩
  · show (l ++ [_]).length * 96 ≤ 140737488355328
    rw [hl]
    split <;> simp only [List.length_append, List.length_singleton, List.length_nil] <;> omega
  · have hno : ((clC g).take j.toNat).any (dhC i) = false := by
      rw [Bool.eq_false_iff]
      intro h
      obtain ⟨c, hcm, hcc⟩ := List.any_eq_true.1 h
      have hh := hP.2.2.2.2
      obtain ⟨k, hk, e⟩ := List.mem_iff_getElem.1 hcm
      rw [List.length_take] at hk
      rw [List.getElem_take] at e
      rw [List.pairwise_iff_getElem] at hh
      have := hh k j.toNat (by omega) (by omega) (by omega)
      rw [e] at this
      unfold dhC at hc hcc
      rw [Bool.and_eq_true, decide_eq_true_iff, decide_eq_true_iff] at hc hcc
      have q : (clC g).getD j.toNat [] = (clC g)[j.toNat]'(by omega) := by rw [List.getD_eq_getElem?_getD, List.getElem?_eq_getElem]; rfl
      rw [q] at hc
      omega
    rw [take_succ j0 hj ([] : List Int), List.any_append, hno, List.any_cons, hc, hl, hno]
    simp [lapp]
  · rw [take_succ j0 hj ([] : List Int), List.any_append, List.any_cons, hc, hl]
    simp
theorem dh_out {g l : List Op3} (hg : chkE g = 0) (hb : g.length * 96 ≤ room) {i j : Int} (i0 : 0 ≤ i) (hi : i < (g.length : Int)) (hI : dhI g i l j) (hj : ¬ j < ((clC g).length : Int)) :
    dhO g l (w64 (i + 1)) ∧ (decide (0 ≤ opMu g (w64 (i + 1))) = true ∧ decide (opMu g (w64 (i + 1)) < opMu g i) = true) := by
  obtain ⟨e1, e2, e3⟩ := opMu_next hb i0 hi
  refine ⟨?_, e2, e3⟩
  rw [e1]
  refine ⟨⟨by omega, by omega⟩, ?_⟩
  rw [hI.2, take_end hj, dh_any hg i0 hi, take_succ i0 hi zerO, fil_snoc]
  split
  · rfl
  · simp
theorem dh_end {g l : List Op3} {i : Int} (hg : chkE g = 0) (hO : dhO g l i) (hi : ¬ i < (g.length : Int)) : l = heL g := by
  rw [heL_eq hg, hO.2, take_end hi]
end Go.Fx
