/-
  Layer 5 in Lean: the rounds of the loops.
-/
import Derived.Test.YtcadkndjcneedaaGreatGa
set_option linter.unusedSimpArgs false
set_option linter.unusedVariables false
set_option linter.unusedSectionVars false
namespace Go.Fx
open Go

theorem mulE_one (o : Op3) : mulE oneO o = errO o := by
  have h1 : errO oneO = 0 := by decide
  have e2 := errL_two oneO o
  rw [h1] at e2
  rcases errO_034 o with h | h | h
  · have hF := errO_ok.1 h
    have e : errL [oneO, o] = 0 := by rw [e2, h]; decide
    unfold mulE
    rw [if_pos e, h]
    show errM (mulZ (oneZ 1) o.R) = 0
    rw [(mulZ_one _).1]
    exact errM_B (by decide) hF.B
  · have e : errL [oneO, o] = 3 := by rw [e2, h]; decide
    unfold mulE; rw [if_neg (by rw [e]; decide), e, h]
  · have e : errL [oneO, o] = 4 := by rw [e2, h]; decide
    unfold mulE; rw [if_neg (by rw [e]; decide), e, h]
theorem nodup_inj {α : Type} {l : List α} (h : l.Nodup) {i j : Nat} (hi : i < l.length) (hj : j < l.length) (e : l[i] = l[j]) : i = j := by
  rw [List.nodup_iff_pairwise_ne, List.pairwise_iff_getElem] at h
  rcases Nat.lt_trichotomy i j with h1 | h1 | h1
  · exact absurd e (h i j hi hj h1)
  · exact h1
  · exact absurd e.symm (h j i hj hi h1)
theorem gE_frm {g : List Op3} (h : gE g = 0) : ∀ o ∈ g, Frm o := fun o ho => by
  unfold gE at h
  split at h
  · cases h
  · exact errO_ok.1 (errL_zero.1 h o ho)
theorem gE_len {g : List Op3} (h : gE g = 0) : g.length ≤ 192 := by
  unfold gE at h
  split at h
  · cases h
  · omega
theorem grpB_iff {g : List Op3} : grpB g = true ↔ stB g = true ∧ memO g oneO = true ∧ clsB g = true := by
  unfold grpB
  rw [Bool.and_eq_true, Bool.and_eq_true]
theorem cg_of {g : List Op3} (hF : ∀ o ∈ g, Frm o) (hc : ∀ a ∈ g, ∀ b ∈ g, mulO a b ∈ g) {a b : Op3} (ha : a ∈ g) (hb : b ∈ g) : cgP g a b := by
  refine ⟨?_, hc a ha b hb⟩
  rw [mulE_frm (hF a ha) (hF b hb)]
  exact errM_B (by decide) (hF _ (hc a ha b hb)).B
/-! ### In order -/
theorem st_init (g : List Op3) : stInv g 1 := ⟨by omega, .inr rfl, fun k hk => by simp at hk⟩
theorem st_prev {g : List Op3} {i : Int} (hb : g.length * 96 ≤ room) (hI : stInv g i) (hi : i < (g.length : Int)) : w64 (i - 1) = i - 1 :=
  w64_id (by have := hI.1; omega) (by unfold room at hb; omega)
theorem st_bad {g : List Op3} {i : Int} (hI : stInv g i) (hi : i < (g.length : Int)) (hg : grpB g = true) (h : 0 ≤ cmpO (g.getD (i - 1).toNat zerO) (g.getD i.toNat zerO)) : False := by
  have h1 := stB_iff.1 (grpB_iff.1 hg).1 (i - 1).toNat (by have := hI.1; omega)
  rw [show (i - 1).toNat + 1 = i.toNat by have := hI.1; omega] at h1
  omega
theorem st_next {g : List Op3} {i : Int} (hb : g.length * 96 ≤ room) (hI : stInv g i) (hi : i < (g.length : Int)) (h : ¬ 0 ≤ cmpO (g.getD (i - 1).toNat zerO) (g.getD i.toNat zerO)) :
    stInv g (w64 (i + 1)) ∧ (decide (0 ≤ opMu g (w64 (i + 1))) = true ∧ decide (opMu g (w64 (i + 1)) < opMu g i) = true) := by
  have i1 := hI.1
  obtain ⟨e1, e2, e3⟩ := opMu_next hb (by omega) hi
  refine ⟨?_, e2, e3⟩
  rw [e1]
  refine ⟨by omega, .inl (by omega), fun k hk => ?_⟩
  rcases Nat.lt_or_ge (k + 1) i.toNat with h1 | h1
  · exact hI.2.2 k h1
  · have hk' : k = (i - 1).toNat := by omega
    subst hk'
    rw [show (i - 1).toNat + 1 = i.toNat by omega]
    omega
theorem st_end {g : List Op3} {i : Int} (hI : stInv g i) (hi : ¬ i < (g.length : Int)) : stB g = true := stB_iff.2 fun k hk => hI.2.2 k (by omega)
theorem stP_lt {g : List Op3} (h : stP g g.length) : ∀ {i j : Nat}, i < j → j < g.length → cmpO (g.getD i zerO) (g.getD j zerO) < 0 := fun {i j} hij hj => by
  induction j with
  | zero => omega
  | succ j ih =>
    have h1 := h j hj
    rcases Nat.lt_or_ge i j with h2 | h2
    · exact (cmpO_trans _ _ _).2.1 (ih h2 (by omega)) (by omega)
    · have : i = j := by omega
      subst this; exact h1
theorem st_nodup {g : List Op3} (h : stB g = true) : g.Nodup := by
  have h' := stB_iff.1 h
  rw [List.nodup_iff_pairwise_ne, List.pairwise_iff_getElem]
  intro i j hi hj hij e
  have := stP_lt h' hij hj
  rw [List.getD_eq_getElem?_getD, List.getD_eq_getElem?_getD, List.getElem?_eq_getElem hi, List.getElem?_eq_getElem hj, Option.getD_some, Option.getD_some, e, cmpO_zero.2 rfl] at this
  omega
/-! ### Places -/
theorem pl_init (g : List Op3) : plInv g [] 0 := ⟨by omega, by omega, fun p => by simp [mhas, mfind], fun _ k hk => by simp at hk⟩
theorem pl_next {g : List Op3} {m : List (Op3 × Int)} {i : Int} (hb : g.length * 96 ≤ room) (hI : plInv g m i) (hi : i < (g.length : Int)) :
    plInv g (mset eqO m (g.getD i.toNat zerO) i) (w64 (i + 1)) ∧ (decide (0 ≤ opMu g (w64 (i + 1))) = true ∧ decide (opMu g (w64 (i + 1)) < opMu g i) = true) := by
  have i0 := hI.1
  obtain ⟨e1, e2, e3⟩ := opMu_next hb i0 hi
  refine ⟨?_, e2, e3⟩
  rw [e1]
  refine ⟨by omega, by omega, fun p => ?_, fun hnd k hk => ?_⟩
  · rw [mhas_set, take_succ i0 hi zerO, List.mem_append, List.mem_singleton, Bool.or_eq_true, decide_eq_true_eq, hI.2.2.1 p]
    exact ⟨fun h => h.elim (fun h => .inr h.symm) .inl, fun h => h.elim .inr fun h => .inl h.symm⟩
  · rw [mget_set]
    have hlt : i.toNat < g.length := by omega
    rcases Nat.lt_or_ge k i.toNat with h1 | h1
    · have hk2 : k < g.length := by omega
      rw [if_neg, hI.2.2.2 hnd k h1]
      intro e
      rw [List.getD_eq_getElem?_getD, List.getD_eq_getElem?_getD, List.getElem?_eq_getElem hlt, List.getElem?_eq_getElem hk2, Option.getD_some, Option.getD_some] at e
      have := nodup_inj hnd hlt hk2 e
      omega
    · have : k = i.toNat := by omega
      subst this
      rw [if_pos rfl]; omega
theorem pl_end {g : List Op3} {m : List (Op3 × Int)} {i : Int} (hI : plInv g m i) (hi : ¬ i < (g.length : Int)) : (∀ p, mhas eqO m p = true ↔ p ∈ g) ∧ (g.Nodup → ∀ k, k < g.length → mgetD eqO m (g.getD k zerO) = k) := by
  obtain ⟨_, _, h1, h2⟩ := hI
  rw [take_end hi] at h1
  exact ⟨h1, fun hn k hk => h2 hn k (by omega)⟩
theorem pl_get {g : List Op3} {m : List (Op3 × Int)} (hnd : g.Nodup) (hm : (∀ p, mhas eqO m p = true ↔ p ∈ g) ∧ (g.Nodup → ∀ k, k < g.length → mgetD eqO m (g.getD k zerO) = k)) {p : Op3} (hp : p ∈ g) : mgetD eqO m p = idxO g p := by
  obtain ⟨h1, h2, h3⟩ := idxD_mem hp
  have h4 := hm.2 hnd (idxD g p).toNat (by omega)
  rw [List.getD_eq_getElem?_getD, h3, Option.getD_some] at h4
  rw [h4]
  show _ = idxD g p
  omega
/-! ### Closed -/
theorem cg_in {g : List Op3} {a : Op3} {j : Int} (hb : g.length * 96 ≤ room) (hD : cgIn g a j) (hj : j < (g.length : Int)) (h : cgP g a (g.getD j.toNat zerO)) :
    cgIn g a (w64 (j + 1)) ∧ (decide (0 ≤ opMu g (w64 (j + 1))) = true ∧ decide (opMu g (w64 (j + 1)) < opMu g j) = true) := by
  have j0 := hD.1
  obtain ⟨e1, e2, e3⟩ := opMu_next hb j0 hj
  refine ⟨?_, e2, e3⟩
  rw [e1]
  refine ⟨by omega, by omega, fun b hbm => ?_⟩
  rw [take_succ j0 hj zerO, List.mem_append, List.mem_singleton] at hbm
  rcases hbm with h1 | rfl
  · exact hD.2.2 b h1
  · exact h
theorem cg_out {g : List Op3} {i j : Int} (hb : g.length * 96 ≤ room) (hC : cgInv g i) (hi : i < (g.length : Int)) (hD : cgIn g (g.getD i.toNat zerO) j) (hj : ¬ j < (g.length : Int)) :
    cgInv g (w64 (i + 1)) ∧ (decide (0 ≤ opMu g (w64 (i + 1))) = true ∧ decide (opMu g (w64 (i + 1)) < opMu g i) = true) := by
  have i0 := hC.1
  obtain ⟨e1, e2, e3⟩ := opMu_next hb i0 hi
  refine ⟨?_, e2, e3⟩
  rw [e1]
  refine ⟨by omega, by omega, fun a ha => ?_⟩
  rw [take_succ i0 hi zerO, List.mem_append, List.mem_singleton] at ha
  rcases ha with h1 | rfl
  · exact hC.2.2 a h1
  · have := hD.2.2
    rw [take_end hj] at this
    exact this
theorem chk_ok {g : List Op3} (hz : gE g = 0) (hst : stB g = true) (hone : oneO ∈ g) {i : Int} (hC : cgInv g i) (hi : ¬ i < (g.length : Int)) : chkE g = 0 := by
  unfold chkE
  rw [if_pos hz, if_pos]
  refine grpB_iff.2 ⟨hst, memO_iff.2 hone, clsB_iff.2 fun a ha b hb => ?_⟩
  have := hC.2.2
  rw [take_end hi] at this
  exact (this a ha b hb).2
theorem chk_zero {g : List Op3} (h : chkE g = 0) : gE g = 0 ∧ grpB g = true := by
  unfold chkE at h
  by_cases hz : gE g = 0
  · rw [if_pos hz] at h
    by_cases hg : grpB g = true
    · exact ⟨hz, hg⟩
    · rw [if_neg hg] at h; cases h
  · rw [if_neg hz] at h; exact absurd h hz
theorem chk_grp {g : List Op3} (h : chkE g = 0) : (∀ o ∈ g, Frm o) ∧ g.Nodup ∧ oneO ∈ g ∧ ∀ a ∈ g, ∀ b ∈ g, mulO a b ∈ g := by
  obtain ⟨h1, h2⟩ := chk_zero h
  obtain ⟨g1, g2, g3⟩ := grpB_iff.1 h2
  exact ⟨gE_frm h1, st_nodup g1, memO_iff.1 g2, clsB_iff.1 g3⟩
theorem chk_len {g : List Op3} (h : chkE g = 0) : g.length ≤ 192 := gE_len (chk_zero h).1
/-! ### The table -/
theorem rowO_len (g : List Op3) (a : Op3) : (rowO g a).length = g.length := by simp [rowO]
theorem rowO_get {g : List Op3} {a : Op3} {j : Int} (h0 : 0 ≤ j) (hj : j < (g.length : Int)) : (rowO g a).getD j.toNat 0 = idxO g (mulO a (g.getD j.toNat zerO)) := by
  have : j.toNat < g.length := by omega
  simp [rowO, List.getD, this]
theorem tb_in {g : List Op3} {a : Op3} {r : List Int} {j : Int} (hb : g.length * 96 ≤ room) (hR : tbIn g a r j) (hj : j < (g.length : Int)) :
    tbIn g a (lset r j (idxO g (mulO a (g.getD j.toNat zerO)))) (w64 (j + 1)) ∧ (decide (0 ≤ opMu g (w64 (j + 1))) = true ∧ decide (opMu g (w64 (j + 1)) < opMu g j) = true) := by
  have j0 := hR.1
  obtain ⟨e1, e2, e3⟩ := opMu_next hb j0 hj
  refine ⟨?_, e2, e3⟩
  rw [e1]
  refine ⟨by omega, by omega, by simp [lset, hR.2.2.1], ?_⟩
  have hl : j < ((lset r j (idxO g (mulO a (g.getD j.toNat zerO)))).length : Int) := by simp [lset, hR.2.2.1]; exact hj
  rw [take_succ j0 hl 0, take_succ j0 (by rw [rowO_len]; exact hj) 0, rowO_get j0 hj, ← hR.2.2.2]
  unfold lset
  rw [List.take_set_of_le (Nat.le_refl _)]
  congr 2
  have : j.toNat < r.length := by rw [hR.2.2.1]; omega
  simp [List.getD, this]
theorem tb_out {g : List Op3} {t : List (List Int)} {r : List Int} {i j : Int} (hb : g.length * 96 ≤ room) (hI : tbInv g t i) (hi : i < (g.length : Int)) (hR : tbIn g (g.getD i.toNat zerO) r j) (hj : ¬ j < (g.length : Int)) :
    tbInv g (lapp t [r]) (w64 (i + 1)) ∧ (decide (0 ≤ opMu g (w64 (i + 1))) = true ∧ decide (opMu g (w64 (i + 1)) < opMu g i) = true) := by
  have i0 := hI.1
  obtain ⟨e1, e2, e3⟩ := opMu_next hb i0 hi
  refine ⟨?_, e2, e3⟩
  rw [e1]
  refine ⟨by omega, by omega, ?_⟩
  have h := hR.2.2.2
  rw [List.take_of_length_le (by rw [hR.2.2.1]; omega), List.take_of_length_le (by rw [rowO_len]; omega)] at h
  rw [take_succ i0 hi zerO, List.map_append, ← hI.2.2, h]
  rfl
/-! ### Matrices and shifts -/
end Go.Fx
