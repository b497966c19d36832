/-
  Layers 13 and 14: theirs and their opposites'; what a group turns into one another is absent together.
-/
import Derived.Test.YthoicknhjjlnjaaGreatFb
set_option linter.unusedSimpArgs false
set_option linter.unusedVariables false
set_option linter.unusedSectionVars false
namespace Go.Fx
open Go

def boI (l0 l : List V3) (i : Int) : Prop := (0 ≤ i ∧ i ≤ (l0.length : Int)) ∧ l = l0 ++ (l0.take i.toNat).map ngV
def atI (l : List V3) (i : Int) : Prop := 0 ≤ i ∧ i ≤ (l.length : Int)
def boM (l0 : List V3) (i : Int) : Int := (l0.length : Int) - i
def hboL (g : List Op3) (h : V3) : List V3 := if hkE g h = 0 then unqG cmpV (hofL g h ++ (hofL g h).map ngV) else []
theorem bo_init (l : List V3) : boI l l 0 := ⟨⟨Int.le_refl _, by omega⟩, by simp⟩
theorem bo_at {l0 l : List V3} {i : Int} (h : boI l0 l i) (hi : i < (l0.length : Int)) : l.getD i.toNat (V3.mk 0 0 0) = l0.getD i.toNat (V3.mk 0 0 0) := by
  rw [h.2, List.getD_eq_getElem?_getD, List.getElem?_append_left (by have := h.1; omega), ← List.getD_eq_getElem?_getD]
theorem bo_len {l0 l : List V3} {i : Int} (h : boI l0 l i) : (l.length : Int) = (l0.length : Int) + i := by
  have := h.1
  rw [h.2, List.length_append, List.length_map, List.length_take]; omega
theorem bo_next {l0 l : List V3} {i : Int} (h : boI l0 l i) (hi : i < (l0.length : Int)) : boI l0 (lapp l [ngV (l0.getD i.toNat (V3.mk 0 0 0))]) (i + 1) := by
  have h0 := h.1.1
  refine ⟨⟨by omega, by omega⟩, ?_⟩
  rw [take_succ h0 hi (V3.mk 0 0 0), List.map_append, ← List.append_assoc, ← h.2]; rfl
theorem bo_sub {l0 l : List V3} {i : Int} (h : boI l0 l i) : lsub l 0 (l0.length : Int) = l0 := by
  rw [h.2]; unfold lsub; simp
theorem bo_end {l0 l : List V3} {i : Int} (h : boI l0 l i) (hi : ¬ i < (l0.length : Int)) : l = l0 ++ l0.map ngV := by
  have h1 := h.1
  rw [h.2, List.take_of_length_le (by omega)]

/-! ### Rows times matrices -/
def dotH (h v : V3) : Int := h.x * v.x + h.y * v.y + h.z * v.z
def rowZ (r : M3) (h : V3) : V3 := appZ (traZ r) h
theorem row_mul (a b : M3) (h : V3) : rowZ (mulZ a b) h = rowZ b (rowZ a h) := by
  simp only [rowZ, appZ, traZ, mulZ, V3.mk.injEq]; grind
theorem row_dot (h : V3) (r : M3) (v : V3) : dotH (rowZ r h) v = dotH h (appZ r v) := by
  simp only [dotH, rowZ, appZ, traZ]; grind
theorem row_neg (r : M3) (h : V3) : rowZ r (negV h) = negV (rowZ r h) := by
  simp only [rowZ, appZ, traZ, negV, V3.mk.injEq]; grind
theorem dot_neg (h v : V3) : dotH (negV h) v = -dotH h v := by
  simp only [dotH, negV]; grind
theorem dot_add (h u v : V3) : dotH h (addV u v) = dotH h u + dotH h v := by
  simp only [dotH, addV]; grind
theorem dot_eqV {h u v : V3} (e : eqV 24 u v) : dotH h u % 24 = dotH h v % 24 := by
  obtain ⟨e1, e2, e3⟩ := eqV_iff.1 e
  have w : ∀ {x y : Int}, x % 24 = y % 24 → ∃ s, x = y + 24 * s := fun {x y} h => ⟨(x - y) / 24, by omega⟩
  obtain ⟨s1, f1⟩ := w e1
  obtain ⟨s2, f2⟩ := w e2
  obtain ⟨s3, f3⟩ := w e3
  have : dotH h u = dotH h v + 24 * (h.x * s1 + h.y * s2 + h.z * s3) := by
    unfold dotH; rw [f1, f2, f3]; grind
  rw [this, Int.add_mul_emod_self_left]
theorem row_B {k l : Int} {r : M3} {h : V3} (hr : Bnd k r) (hh : BndV l h) : BndV (3 * (k * l)) (rowZ r h) := appB ⟨hr.xx, hr.yx, hr.zx, hr.xy, hr.yy, hr.zy, hr.xz, hr.yz, hr.zz⟩ hh
theorem tu_row {o : Op3} (ho : Frm o) {h : V3} (hh : okH h = true) : tuV o.R h = rowZ o.R h ∧ BndV 1536000 (rowZ o.R h) := by
  have := row_B ho.B (okH_B hh)
  exact ⟨wV_id (by decide) this, this⟩
theorem ng_neg {h : V3} (hh : BndV 1536000 h) : ngV h = negV h := by
  obtain ⟨a, b, c⟩ := hh
  exact wV_id (k := 1536000) (by decide) ⟨by simp only [negV]; omega, by simp only [negV]; omega, by simp only [negV]; omega⟩
theorem ok_neg {h : V3} : okH (negV h) = okH h := by
  have e : ∀ x : Int, inE 512 (-x) = inE 512 x := fun x => by
    unfold inE
    rw [show decide (-512 ≤ -x) = decide (x ≤ 512) from by rw [decide_eq_decide]; omega, show decide (-x ≤ 512) = decide (-512 ≤ x) from by rw [decide_eq_decide]; omega, Bool.and_comm]
  unfold okH negV
  simp only [e]
theorem ph_dot {o : Op3} (ho : Frm o) {h : V3} (hh : okH h = true) : phW o h = dotH h o.T % 24 := by
  obtain ⟨t1, t2, t3⟩ := inT_iff.1 ho.T
  obtain ⟨a, b, c⟩ := okH_B hh
  have m : ∀ x t : Int, -512 ≤ x ∧ x ≤ 512 → 0 ≤ t ∧ t ≤ 23 → w64 (x * t) = x * t ∧ -11776 ≤ x * t ∧ x * t ≤ 11776 := fun x t hx ht => by
    have := mulB (a := x) (b := t) 512 23 (by omega) (by omega) (by omega) (by omega)
    exact ⟨w64_id (by omega) (by omega), by omega, by omega⟩
  obtain ⟨e1, f1⟩ := m h.x o.T.x a t1
  obtain ⟨e2, f2⟩ := m h.y o.T.y b t2
  obtain ⟨e3, f3⟩ := m h.z o.T.z c t3
  unfold phW phN dotH
  rw [e1, e2, e3, w64_id (x := h.x * o.T.x + h.y * o.T.y) (by omega) (by omega), w64_id (by omega) (by omega)]
theorem abs_iff {o : Op3} (ho : Frm o) {h : V3} (hh : okH h = true) : absB o h = true ↔ rowZ o.R h = h ∧ ¬ dotH h o.T % 24 = 0 := by
  unfold absB
  rw [Bool.and_eq_true, decide_eq_true_iff, (tu_row ho hh).1, ph_dot ho hh]
  simp
/-- Opposites. -/
theorem why_neg {g : List Op3} (hg : chkE g = 0) {h : V3} (hh : okH h = true) : whyB g (negV h) = whyB g h := by
  have key : ∀ h : V3, okH h = true → whyB g h = true → whyB g (negV h) = true := fun h hh hw => by
    obtain ⟨o, ho, ha⟩ := why_iff.1 hw
    have fo := (chk_grp hg).1 o ho
    obtain ⟨h1, h2⟩ := (abs_iff fo hh).1 ha
    refine why_iff.2 ⟨o, ho, (abs_iff fo (by rw [ok_neg]; exact hh)).2 ⟨by rw [row_neg, h1], ?_⟩⟩
    rw [dot_neg]; omega
  rw [Bool.eq_iff_iff]
  refine ⟨fun hw => ?_, key h hh⟩
  have := key (negV h) (by rw [ok_neg]; exact hh) hw
  have e : negV (negV h) = h := by cases h; simp [negV]
  rwa [e] at this
/-- What a map of the group turns. -/
theorem why_row {g : List Op3} (hg : chkE g = 0) {h : V3} (hh : okH h = true) {o : Op3} (ho : o ∈ g) (hk : okH (rowZ o.R h) = true) : whyB g (rowZ o.R h) = whyB g h := by
  obtain ⟨gF, gN, g1, gM⟩ := chk_grp hg
  have key : ∀ {h : V3} {o : Op3}, okH h = true → o ∈ g → okH (rowZ o.R h) = true → whyB g h = true → whyB g (rowZ o.R h) = true := fun {h o} hh ho hk hw => by
    obtain ⟨m, hm, ha⟩ := why_iff.1 hw
    obtain ⟨h1, h2⟩ := (abs_iff (gF m hm) hh).1 ha
    obtain ⟨c, hc, c1, c2⟩ := grp_left hg ho
    have hm' : mulO c (mulO m o) ∈ g := gM _ hc _ (gM _ hm _ ho)
    have e : mulO o (mulO c (mulO m o)) = mulO m o := by rw [← mulO_assoc, c2]; exact (mulO_one (gF _ (gM _ hm _ ho)).T).2
    generalize mulO c (mulO m o) = m' at hm' e
    have eR : mulZ o.R m'.R = mulZ m.R o.R := congrArg Op3.R e
    have eT : eqV 24 (addV (appZ o.R m'.T) o.T) (addV (appZ m.R o.T) m.T) := congrArg Op3.T e
    refine why_iff.2 ⟨m', hm', (abs_iff (gF m' hm') hk).2 ⟨?_, ?_⟩⟩
    · rw [← row_mul, eR, row_mul, h1]
    · have := dot_eqV (h := h) eT
      rw [dot_add, dot_add, ← row_dot, ← row_dot, h1] at this
      omega
  rw [Bool.eq_iff_iff]
  refine ⟨fun hw => ?_, key hh ho hk⟩
  obtain ⟨c, hc, c1, c2⟩ := grp_left hg ho
  have e : rowZ c.R (rowZ o.R h) = h := by
    rw [← row_mul, show mulZ o.R c.R = oneZ 1 from congrArg Op3.R c2]
    cases h; simp [rowZ, appZ, traZ, oneZ]
  have := key hk hc (by rw [e]; exact hh) hw
  rwa [e] at this
theorem hof_mem {g : List Op3} {h : V3} (hz : hkE g h = 0) {k : V3} : k ∈ hofL g h ↔ ∃ o ∈ g, k = rowZ o.R h := by
  obtain ⟨hh, hg⟩ := hk_zero hz
  unfold hofL
  rw [if_pos hz, unqG_mem]
  unfold imgV
  rw [List.mem_map]
  constructor
  · rintro ⟨o, ho, rfl⟩; exact ⟨o, ho, (tu_row ((chk_grp hg).1 o ho) hh).1⟩
  · rintro ⟨o, ho, rfl⟩; exact ⟨o, ho, (tu_row ((chk_grp hg).1 o ho) hh).1⟩
/-- Theirs, and their opposites'. -/
theorem both_why {g : List Op3} {h : V3} (hz : hkE g h = 0) {k : V3} (hk : k ∈ hboL g h) (ok : okH k = true) : whyB g k = whyB g h := by
  obtain ⟨hh, hg⟩ := hk_zero hz
  unfold hboL at hk
  rw [if_pos hz, unqG_mem, List.mem_append] at hk
  rcases hk with hk | hk
  · obtain ⟨o, ho, rfl⟩ := (hof_mem hz).1 hk
    exact why_row hg hh ho ok
  · obtain ⟨k', hk', rfl⟩ := List.mem_map.1 hk
    obtain ⟨o, ho, rfl⟩ := (hof_mem hz).1 hk'
    rw [ng_neg (tu_row ((chk_grp hg).1 o ho) hh).2] at ok ⊢
    rw [ok_neg] at ok
    rw [why_neg hg ok, why_row hg hh ho ok]
theorem both_is {g : List Op3} {h : V3} (hz : hkE g h = 0) {k : V3} (hk : k ∈ hboL g h) : (isE g k = 1) ∨ (isE g k = 0 ∧ isB g k = isB g h) := by
  obtain ⟨hh, hg⟩ := hk_zero hz
  by_cases ok : okH k = true
  · have e : hkE g k = 0 := by unfold hkE; rw [if_pos ok]; exact hg
    right
    refine ⟨e, ?_⟩
    unfold isB
    rw [if_pos e, if_pos hz, both_why hz hk ok]
  · left
    unfold isE hkE; rw [if_neg ok]
theorem is_zero {g : List Op3} (hg : chkE g = 0) : isE g (V3.mk 0 0 0) = 0 ∧ isB g (V3.mk 0 0 0) = false := by
  have ok : okH (V3.mk 0 0 0) = true := by decide
  have e : hkE g (V3.mk 0 0 0) = 0 := by unfold hkE; rw [if_pos ok]; exact hg
  refine ⟨e, ?_⟩
  unfold isB
  rw [if_pos e]
  rw [Bool.eq_false_iff]
  intro hw
  obtain ⟨o, ho, ha⟩ := why_iff.1 hw
  have := ((abs_iff ((chk_grp hg).1 o ho) ok).1 ha).2
  apply this
  simp [dotH]
theorem hbo_len (g : List Op3) (h : V3) : ((hboL g h).length : Int) ≤ 384 := by
  unfold hboL
  split
  · have h1 := unqG_len (c := cmpV) (hofL g h ++ (hofL g h).map ngV)
    have h2 := hof_len g h
    rw [List.length_append, List.length_map] at h1
    omega
  · decide
end Go.Fx
