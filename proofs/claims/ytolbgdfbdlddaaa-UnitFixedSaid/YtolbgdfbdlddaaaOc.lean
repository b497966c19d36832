/-
  Layer 9 in Lean: what the loops of the statements count.
-/
import Derived.Test.YtolbgdfbdlddaaaOb
set_option linter.unusedSimpArgs false
set_option linter.unusedVariables false
set_option linter.unusedSectionVars false
namespace Go.Fx
open Go
def tmP (g : List Op3) (p : Pt) (l : List Pt) (t : List Int) (i : Int) : Prop := 0 ≤ i ∧ i ≤ (g.length : Int) ∧ t.length = l.length ∧ ∀ k : Nat, k < l.length → t.getD k 0 = (cntX ((imP g p).take i.toNat) (l.getD k zerP) : Int)
def tiP (l : List Pt) (q : Pt) (u t : List Int) (k : Int) (b : Bool) : Prop := 0 ≤ k ∧ k ≤ (l.length : Int) ∧ t.length = u.length ∧ (∀ j : Nat, j < l.length → t.getD j 0 = u.getD j 0 + (if (j : Int) < k ∧ l.getD j zerP = q then 1 else 0)) ∧ b = decide (q ∈ l.take k.toNat)
theorem getD_lset_eq {t : List Int} {k : Int} {v : Int} (h0 : 0 ≤ k) (hk : k < (t.length : Int)) : (lset t k v).getD k.toNat 0 = v := by
  unfold lset
  rw [List.getD_eq_getElem?_getD, List.getElem?_set, if_pos rfl, if_pos (by omega)]; rfl
theorem getD_lset_ne {t : List Int} {k : Int} {v : Int} {j : Nat} (h : j ≠ k.toNat) : (lset t k v).getD j 0 = t.getD j 0 := by
  unfold lset
  rw [List.getD_eq_getElem?_getD, List.getElem?_set, if_neg (fun e => h e.symm), ← List.getD_eq_getElem?_getD]
theorem tm_init (g : List Op3) (p : Pt) (l : List Pt) : tmP g p l (lrep (l.length : Int) (0 : Int)) 0 := by
  refine ⟨Int.le_refl _, by omega, by simp [lrep], fun k hk => ?_⟩
  have : (lrep (l.length : Int) (0 : Int)).getD k 0 = 0 := by simp [lrep, List.getD, hk]
  rw [this]; rfl
theorem tm_bnd {g : List Op3} {p : Pt} {l : List Pt} {t : List Int} {i : Int} (h : tmP g p l t i) {k : Nat} (hk : k < l.length) : 0 ≤ t.getD k 0 ∧ t.getD k 0 ≤ (g.length : Int) := by
  rw [h.2.2.2 k hk]
  have := cntX_le ((imP g p).take i.toNat) (l.getD k zerP)
  rw [List.length_take, imP_len] at this
  omega
theorem ti_init (l : List Pt) (q : Pt) (u : List Int) : tiP l q u u 0 false :=
  ⟨Int.le_refl _, by omega, rfl, fun j _ => by rw [if_neg (by omega)]; omega, by simp⟩
theorem ti_hit {l : List Pt} {q : Pt} {u t : List Int} {k : Int} {b : Bool} (h : tiP l q u t k b) (hk : k < (l.length : Int)) (hu : u.length = l.length) (hb : 0 ≤ u.getD k.toNat 0 ∧ u.getD k.toNat 0 ≤ 192) (hq : l.getD k.toNat zerP = q) :
    tiP l q u (lset t k (w64 (t.getD k.toNat 0 + 1))) (k + 1) true := by
  obtain ⟨h1, h2, h3, h4, h5⟩ := h
  refine ⟨by omega, by omega, by rw [lset_len, h3], fun j hj => ?_, ?_⟩
  · by_cases e : j = k.toNat
    · subst e
      have h6 := h4 k.toNat hj
      rw [if_neg (by omega)] at h6
      rw [getD_lset_eq h1 (by omega), if_pos ⟨by omega, hq⟩, h6, w64_id (by omega) (by omega)]
      omega
    · rw [getD_lset_ne e, h4 j hj]
      by_cases e2 : l.getD j zerP = q
      · by_cases e3 : (j : Int) < k
        · rw [if_pos ⟨e3, e2⟩, if_pos ⟨by omega, e2⟩]
        · rw [if_neg (fun c => e3 c.1), if_neg (fun c => by omega)]
      · rw [if_neg (fun c => e2 c.2), if_neg (fun c => e2 c.2)]
  · rw [take_succ h1 hk zerP]
    exact (decide_eq_true (List.mem_append.2 (.inr (by rw [hq]; exact List.mem_singleton.2 rfl)))).symm
theorem ti_miss {l : List Pt} {q : Pt} {u t : List Int} {k : Int} {b : Bool} (h : tiP l q u t k b) (hk : k < (l.length : Int)) (hq : ¬ l.getD k.toNat zerP = q) : tiP l q u t (k + 1) b := by
  obtain ⟨h1, h2, h3, h4, h5⟩ := h
  refine ⟨by omega, by omega, h3, fun j hj => ?_, ?_⟩
  · rw [h4 j hj]
    by_cases e2 : l.getD j zerP = q
    · by_cases e3 : (j : Int) < k
      · rw [if_pos ⟨e3, e2⟩, if_pos ⟨by omega, e2⟩]
      · rw [if_neg (fun c => e3 c.1), if_neg (fun c => ?_)]
        have : j = k.toNat := by omega
        rw [this] at e2; exact hq e2
    · rw [if_neg (fun c => e2 c.2), if_neg (fun c => e2 c.2)]
  · rw [h5, take_succ h1 hk zerP]
    congr 1
    rw [List.mem_append, List.mem_singleton]
    exact propext ⟨.inl, fun c => c.elim id fun c => absurd c.symm hq⟩
theorem ti_end {g : List Op3} {p : Pt} {l : List Pt} {q : Pt} {u t : List Int} {i k : Int} {b : Bool} (h : tiP l q u t k b) (hk : ¬ k < (l.length : Int)) (hu : tmP g p l u i) (hi : i < (g.length : Int)) (hq : q = (imP g p).getD i.toNat zerP) :
    tmP g p l t (i + 1) ∧ b = decide (q ∈ l) := by
  obtain ⟨h1, h2, h3, h4, h5⟩ := h
  obtain ⟨u1, u2, u3, u4⟩ := hu
  refine ⟨⟨by omega, by omega, by rw [h3, u3], fun j hj => ?_⟩, ?_⟩
  · rw [h4 j hj, u4 j hj, take_succ u1 (by rw [imP_len]; exact hi) zerP, cntX_snoc, ← hq]
    by_cases e : l.getD j zerP = q
    · rw [if_pos ⟨by omega, e⟩, if_pos e.symm]; omega
    · rw [if_neg (fun c => e c.2), if_neg (fun c => e c.symm)]; omega
  · rw [h5, take_end hk]
def styP (g : List Op3) (s : List Int) (m : List Op3) (k : Int) : Prop := 0 ≤ k ∧ k ≤ (s.length : Int) ∧ m = mapsL g (s.take k.toNat)
theorem sty_init (g : List Op3) (s : List Int) : styP g s [] 0 := ⟨Int.le_refl _, by omega, rfl⟩
theorem sty_next {g : List Op3} {s : List Int} {m : List Op3} {k : Int} (h : styP g s m k) (hk : k < (s.length : Int)) : styP g s (m ++ [g.getD (s.getD k.toNat 0).toNat zerO]) (k + 1) := by
  obtain ⟨h1, h2, h3⟩ := h
  refine ⟨by omega, by omega, ?_⟩
  rw [take_succ h1 hk 0, h3]
  unfold mapsL
  rw [List.map_append]; rfl
/-- How many places two lists have in common, each with each. -/
def coS (l m : List Pt) : Nat := (l.map (cntX m)).sum
theorem coS_snoc (l m : List Pt) (x : Pt) : coS (l ++ [x]) m = coS l m + cntX m x := by
  unfold coS
  rw [List.map_append, List.sum_append]; simp
def coP (l m : List Pt) (c i : Int) : Prop := 0 ≤ i ∧ i ≤ (l.length : Int) ∧ c = (coS (l.take i.toNat) m : Int)
def coI (l m : List Pt) (i c k : Int) : Prop := 0 ≤ k ∧ k ≤ (m.length : Int) ∧ c = (coS (l.take i.toNat) m : Int) + (cntX (m.take k.toNat) (l.getD i.toNat zerP) : Int)
theorem coS_le (l m : List Pt) : coS l m ≤ l.length * m.length := by
  induction l with
  | nil => exact Nat.zero_le _
  | cons x r ih =>
    have h1 : coS (x :: r) m = cntX m x + coS r m := by simp [coS]
    have h2 := cntX_le m x
    rw [h1, List.length_cons, Nat.succ_mul]; omega
theorem cmn_init (l m : List Pt) : coP l m 0 0 := ⟨Int.le_refl _, by omega, rfl⟩
theorem coi_init {l m : List Pt} {c i : Int} (h : coP l m c i) : coI l m i c 0 := ⟨Int.le_refl _, by omega, by rw [h.2.2]; exact (Int.add_zero _).symm⟩
theorem coi_next {l m : List Pt} {i c k : Int} (h : coI l m i c k) (hk : k < (m.length : Int)) :
    (l.getD i.toNat zerP = m.getD k.toNat zerP → coI l m i (c + 1) (k + 1)) ∧ (¬ l.getD i.toNat zerP = m.getD k.toNat zerP → coI l m i c (k + 1)) := by
  obtain ⟨h1, h2, h3⟩ := h
  constructor <;> intro e <;> refine ⟨by omega, by omega, ?_⟩ <;> rw [take_succ h1 hk zerP, cntX_snoc, h3]
  · rw [if_pos e.symm]; omega
  · rw [if_neg (fun c => e c.symm)]; omega
theorem coi_bnd {l m : List Pt} {i c k : Int} (h : coI l m i c k) (hl : l.length ≤ 192) (hm : m.length ≤ 192) : 0 ≤ c ∧ c ≤ 40000 := by
  obtain ⟨h1, h2, h3⟩ := h
  have a1 := coS_le (l.take i.toNat) m
  have a2 := cntX_le (m.take k.toNat) (l.getD i.toNat zerP)
  rw [List.length_take] at a1 a2
  have a3 : min i.toNat l.length * m.length ≤ 192 * 192 := Nat.mul_le_mul (by omega) hm
  omega
theorem cmn_next {l m : List Pt} {c d i k : Int} (h : coP l m c i) (hi : i < (l.length : Int)) (hI : coI l m i d k) (hk : ¬ k < (m.length : Int)) : coP l m d (i + 1) := by
  obtain ⟨h1, h2, h3⟩ := h
  refine ⟨by omega, by omega, ?_⟩
  rw [take_succ h1 hi zerP, coS_snoc, hI.2.2, take_end hk]; omega
theorem coS_one {l m : List Pt} (h : ∀ x ∈ l, cntX m x = 1) : coS l m = l.length := by
  induction l with
  | nil => rfl
  | cons x r ih =>
    have h1 : coS (x :: r) m = cntX m x + coS r m := by simp [coS]
    rw [h1, h x (List.mem_cons_self ..), ih fun y hy => h y (List.mem_cons_of_mem _ hy), List.length_cons]; omega
theorem coS_none {l m : List Pt} (h : ∀ x ∈ l, x ∉ m) : coS l m = 0 := by
  induction l with
  | nil => rfl
  | cons x r ih =>
    have h1 : coS (x :: r) m = cntX m x + coS r m := by simp [coS]
    have h2 : cntX m x = 0 := by
      unfold cntX
      rw [List.length_eq_zero_iff, List.filter_eq_nil_iff]
      intro y hy e
      exact h x (List.mem_cons_self ..) (of_decide_eq_true e ▸ hy)
    rw [h1, h2, ih fun y hy => h y (List.mem_cons_of_mem _ hy)]
theorem cnt_nodup {l : List Pt} (h : l.Nodup) {x : Pt} (hx : x ∈ l) : cntX l x = 1 := by
  induction l with
  | nil => cases hx
  | cons y r ih =>
    rw [List.nodup_cons] at h
    have h1 : cntX (y :: r) x = (if y = x then 1 else 0) + cntX r x := by
      unfold cntX
      by_cases e : y = x
      · rw [List.filter_cons_of_pos (by simpa using e), List.length_cons, if_pos e]; omega
      · rw [List.filter_cons_of_neg (by simpa using e), if_neg e]; omega
    rw [h1]
    by_cases e : y = x
    · subst e
      have : cntX r y = 0 := by
        unfold cntX
        rw [List.length_eq_zero_iff, List.filter_eq_nil_iff]
        intro z hz e2
        exact h.1 (of_decide_eq_true e2 ▸ hz)
      rw [if_pos rfl, this]
    · rw [if_neg e, ih h.2 ((List.mem_cons.1 hx).resolve_left fun c => e c.symm)]
theorem sa_iff {g : List Op3} {p q : Pt} (hz : ocE g [p] = 0) (hq : ocE g [q] = 0) (hm : p.M = q.M) : saE g p q = 0 ∧ (saB g p q = decide (q ∈ imP g p)) := by
  obtain ⟨p1, c⟩ := oc_one hz
  obtain ⟨q1, _⟩ := oc_one hq
  have h2 : ocE g [p, q] = 0 := by unfold ocE; rw [if_pos (by simp [p1, q1])]; exact c
  have h3 : saE g p q = 0 := by unfold saE; rw [if_pos h2, if_pos hm]
  exact ⟨h3, by unfold saB; rw [if_pos h3]⟩
/-- Places of one orbit have one; others have none in common. -/
theorem orb_cases {g : List Op3} {p q : Pt} (hz : ocE g [p] = 0) (hq : ocE g [q] = 0) :
    (q ∈ imP g p → ofL g q = ofL g p ∧ p ∈ imP g q) ∧ (q ∉ imP g p → p ∉ imP g q ∧ ∀ x ∈ ofL g p, x ∉ ofL g q) := by
  have sym : ∀ {p q : Pt}, ocE g [p] = 0 → q ∈ imP g p → p ∈ imP g q := fun {p q} hz h => by
    obtain ⟨a, ha, rfl⟩ := (im_iff hz).1 h
    exact (im_move hz ha p).2 (im_self hz)
  refine ⟨fun h => ?_, fun h => ⟨fun c => h (sym hq c), fun x hx hy => ?_⟩⟩
  · obtain ⟨a, ha, rfl⟩ := (im_iff hz).1 h
    exact ⟨of_move hz ha, sym hz h⟩
  · rw [of_mem hz] at hx
    rw [of_mem hq] at hy
    obtain ⟨a, ha, rfl⟩ := (im_iff hz).1 hx
    refine h ((im_move hz ha q).1 ?_)
    obtain ⟨b, hb, e⟩ := (im_iff hq).1 hy
    rw [← e]
    exact (im_move hq hb q).2 (im_self hq)
end Go.Fx
