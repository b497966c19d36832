/-
  Layer 14: what the statements say.
-/
import Derived.Test.YthoicknhjjlnjaaGreatFa
set_option linter.unusedSimpArgs false
set_option linter.unusedVariables false
set_option linter.unusedSectionVars false
namespace Go.Fx
open Go

def scrw : List Op3 := [Op3.mk (M3.mk (-1) 0 0 0 1 0 0 0 (-1)) (V3.mk 0 12 0), oneO]
theorem filter_sum {α : Type} (p : α → Bool) (l : List α) : (l.filter fun x => !p x).length + (l.filter p).length = l.length := by
  rw [← List.countP_eq_length_filter, ← List.countP_eq_length_filter, List.length_eq_countP_add_countP p (l := l), Nat.add_comm]
  congr 1
  apply List.countP_congr
  intro x _
  cases p x <;> simp
theorem filter_at {α : Type} {p : α → Bool} {l : List α} {k : Int} (h0 : 0 ≤ k) (hk : k < (l.length : Int)) {d : α} (hp : p (l.getD k.toNat d) = true) :
    ((l.take k.toNat).filter p).length < (l.filter p).length ∧ (l.filter p).getD ((l.take k.toNat).filter p).length d = l.getD k.toNat d := by
  have hlt : k.toNat < l.length := by omega
  have hd : l.getD k.toNat d = l[k.toNat] := by simp [List.getD, hlt]
  rw [hd] at hp ⊢
  have hs : l.filter p = (l.take k.toNat).filter p ++ l[k.toNat] :: (l.drop (k.toNat + 1)).filter p := by
    have : l = l.take k.toNat ++ l[k.toNat] :: l.drop (k.toNat + 1) := by rw [← List.drop_eq_getElem_cons hlt, List.take_append_drop]
    conv => lhs; rw [this]
    rw [List.filter_append, List.filter_cons_of_pos hp]
  constructor
  · rw [hs, List.length_append, List.length_cons]; omega
  · rw [hs, List.getD_eq_getElem?_getD, List.getElem?_append_right (Nat.le_refl _), Nat.sub_self]; rfl
def asInv (g : List Op3) (l : List V3) (k i j : Int) : Prop := 0 ≤ k ∧ k ≤ (l.length : Int) ∧ i = (((l.take k.toNat).filter fun h => !whyB g h).length : Int) ∧ j = (((l.take k.toNat).filter fun h => whyB g h).length : Int)
theorem as_init (g : List Op3) (l : List V3) : asInv g l 0 0 0 := ⟨Int.le_refl _, by omega, rfl, rfl⟩
theorem as_len {g : List Op3} {l : List V3} {k i j : Int} (h : asInv g l k i j) : 0 ≤ i ∧ i ≤ (l.length : Int) ∧ 0 ≤ j ∧ j ≤ (l.length : Int) := by
  obtain ⟨h1, h2, h3, h4⟩ := h
  have a1 := List.length_filter_le (fun h => !whyB g h) (l.take k.toNat)
  have a2 := List.length_filter_le (fun h => whyB g h) (l.take k.toNat)
  rw [List.length_take] at a1 a2
  omega
theorem as_next {g : List Op3} {l : List V3} {k i j : Int} (h : asInv g l k i j) (hk : k < (l.length : Int)) :
    (whyB g (l.getD k.toNat (V3.mk 0 0 0)) = false → inB (l.filter fun h => !whyB g h) i ∧ (l.filter fun h => !whyB g h).getD i.toNat (V3.mk 0 0 0) = l.getD k.toNat (V3.mk 0 0 0) ∧ asInv g l (k + 1) (i + 1) j) ∧
    (whyB g (l.getD k.toNat (V3.mk 0 0 0)) = true → inB (l.filter fun h => whyB g h) j ∧ (l.filter fun h => whyB g h).getD j.toNat (V3.mk 0 0 0) = l.getD k.toNat (V3.mk 0 0 0) ∧ asInv g l (k + 1) i (j + 1)) := by
  obtain ⟨h1, h2, h3, h4⟩ := h
  constructor <;> intro hw
  · obtain ⟨q1, q2⟩ := filter_at (p := fun h => !whyB g h) h1 hk (d := V3.mk 0 0 0) (by rw [hw]; rfl)
    subst h3 h4
    refine ⟨⟨by omega, by omega⟩, by simpa using q2, by omega, by omega, ?_, ?_⟩ <;> rw [take_succ h1 hk (V3.mk 0 0 0), List.filter_append, List.length_append] <;> generalize l.getD k.toNat (V3.mk 0 0 0) = x at hw ⊢ <;> simp [hw]
  · obtain ⟨q1, q2⟩ := filter_at (p := fun h => whyB g h) h1 hk (d := V3.mk 0 0 0) hw
    subst h3 h4
    refine ⟨⟨by omega, by omega⟩, by simpa using q2, by omega, by omega, ?_, ?_⟩ <;> rw [take_succ h1 hk (V3.mk 0 0 0), List.filter_append, List.length_append] <;> generalize l.getD k.toNat (V3.mk 0 0 0) = x at hw ⊢ <;> simp [hw]
theorem fst_iff {α : Type} {p : α → Bool} {l : List α} : 0 ≤ fstI p l ↔ ∃ x ∈ l, p x = true := by
  rcases fst_cases p l with ⟨h1, h2⟩ | ⟨h1, h2, ⟨x, h3, h4⟩, h5⟩
  · rw [h1]
    exact ⟨fun h => by omega, fun ⟨x, hx, hp⟩ => by rw [h2 x hx] at hp; cases hp⟩
  · exact ⟨fun _ => ⟨x, List.mem_of_getElem? h3, h4⟩, fun _ => h1⟩
theorem fst_at {α : Type} {p : α → Bool} {l : List α} (h : 0 ≤ fstI p l) (d : α) : fstI p l < (l.length : Int) ∧ p (l.getD (fstI p l).toNat d) = true := by
  rcases fst_cases p l with ⟨h1, h2⟩ | ⟨h1, h2, ⟨x, h3, h4⟩, h5⟩
  · omega
  · refine ⟨h2, ?_⟩
    rw [List.getD_eq_getElem?_getD, h3]; exact h4
theorem why_iff {g : List Op3} {h : V3} : whyB g h = true ↔ ∃ o ∈ g, absB o h = true := by
  unfold whyB whyI
  rw [decide_eq_true_iff]
  exact fst_iff (p := fun o => absB o h)
theorem why_at {g : List Op3} {h : V3} (hw : whyB g h = true) : absB (g.getD (whyI g h).toNat zerO) h = true := (fst_at (p := fun o => absB o h) (of_decide_eq_true hw) zerO).2
theorem fnd_mem {g : List Op3} {o : Op3} (hc : chkE g = 0) (h : fndE g o = 0) : o ∈ g := by
  refine Classical.byContradiction fun hn => ?_
  have hi : idxO g o = -1 := idxD_none hn
  unfold fndE fndF at h
  rw [hc, hi] at h
  by_cases h2 : gE [o] = 0
  · rw [h2] at h; simp at h
  · simp [h2] at h
def soP (g s : List Op3) (i n : Int) : Prop := 0 ≤ i ∧ i ≤ n ∧ (∀ o ∈ s, o ∈ g) ∧ s.length ≤ 4
theorem tu_one {h : V3} (hh : okH h = true) : tuV (oneZ 1) h = h := by
  have hB := okH_B hh
  unfold tuV
  have e : appZ (traZ (oneZ 1)) h = h := by
    obtain ⟨x, y, z⟩ := h
    simp [appZ, traZ, oneZ]
  rw [e, wV_id (by decide) hB]
/-- What a translation of the group shifts is absent. -/
theorem cen_is {g : List Op3} {h v : V3} (hz : hkE g h = 0) (hv : v ∈ cenL g) (hp : ¬ w64 (w64 (w64 (h.x * v.x) + w64 (h.y * v.y)) + w64 (h.z * v.z)) % 24 = 0) : isB g h = true := by
  obtain ⟨h1, h2⟩ := hk_zero hz
  unfold isB
  rw [if_pos hz, why_iff]
  unfold cenL cenF at hv
  rw [if_pos h2, List.mem_map] at hv
  obtain ⟨o, ho, rfl⟩ := hv
  rw [List.mem_filter] at ho
  refine ⟨o, ho.1, ?_⟩
  unfold absB phW phN
  rw [eqM_iff.1 ho.2, tu_one h1, decide_eq_true rfl, decide_eq_false hp]; rfl
def inInv (l : List V3) (h : V3) (i : Int) (b : Bool) : Prop := 0 ≤ i ∧ i ≤ (l.length : Int) ∧ b = decide (ngV h ∈ l.take i.toNat)
theorem in_init (l : List V3) (h : V3) : inInv l h 0 false := ⟨Int.le_refl _, by omega, by simp⟩
theorem in_next {l : List V3} {h : V3} {i : Int} {b : Bool} (hI : inInv l h i b) (hi : i < (l.length : Int)) : inInv l h (i + 1) (if b = true then true else decide (l.getD i.toNat (V3.mk 0 0 0) = ngV h)) := by
  obtain ⟨h1, h2, h3⟩ := hI
  refine ⟨by omega, by omega, ?_⟩
  rw [take_succ h1 hi (V3.mk 0 0 0), h3]
  generalize l.getD i.toNat (V3.mk 0 0 0) = x
  by_cases q : ngV h ∈ l.take i.toNat
  · simp [q]
  · simp [q]
    constructor <;> intro e <;> exact e.symm
theorem in_end {l : List V3} {h : V3} {i : Int} {b : Bool} (hI : inInv l h i b) (hi : ¬ i < (l.length : Int)) : b = decide (ngV h ∈ l) := by
  obtain ⟨h1, h2, h3⟩ := hI
  rw [h3, List.take_of_length_le (by omega)]
theorem cen_in {g : List Op3} {h : V3} (hz : hkE g h = 0) : decide (ngV h ∈ hofL g h) = decide (0 ≤ cenJ g h) := by
  rw [decide_eq_decide]
  unfold hofL cenJ
  rw [if_pos hz, unqG_mem, fst_iff]
  unfold imgV
  rw [List.mem_map]
  constructor
  · rintro ⟨o, ho, e⟩; exact ⟨o, ho, decide_eq_true e⟩
  · rintro ⟨o, ho, e⟩; exact ⟨o, ho, of_decide_eq_true e⟩
theorem ce_rng (g : List Op3) (h : V3) : 0 ≤ ceI g h ∧ ceI g h < 24 ∧ (ceB g h = false → ceI g h = 0) := by
  unfold ceI ceB
  split
  · rename_i c
    refine ⟨Int.emod_nonneg _ (by decide), Int.emod_lt_of_pos _ (by decide), fun q => ?_⟩
    rw [if_pos c.1, decide_eq_true c.2] at q; cases q
  · exact ⟨Int.le_refl _, by decide, fun _ => rfl⟩
theorem hof_len (g : List Op3) (h : V3) : ((hofL g h).length : Int) ≤ 192 := by
  unfold hofL
  split
  · rename_i hz
    have h1 := unqG_len (c := cmpV) (imgV g h)
    have h2 := chk_len (hk_zero hz).2
    unfold imgV at h1
    rw [List.length_map] at h1
    unfold imgV
    omega
  · decide
end Go.Fx
