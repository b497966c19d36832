/-
  Layer 6 in Lean: what sub's functions give, and their loops.
-/
import Derived.Test.YtcadkndjcneedaaGreatHa
set_option linter.unusedSimpArgs false
set_option linter.unusedVariables false
set_option linter.unusedSectionVars false
namespace Go.Fx
open Go
/-- Of two errors the least that is one. -/
def lsF (e f : Int) : Int := if e = 0 ∨ (f ≠ 0 ∧ f < e) then f else e
def skE (l : List (List Op3)) : Int := l.foldl (fun w g => lsF w (chkE g)) 0
def skI (l : List (List Op3)) (i e : Int) : Prop := (0 ≤ i ∧ i ≤ (l.length : Int)) ∧ e = skE (l.take i.toNat)
def skMu (l : List (List Op3)) (i : Int) : Int := (l.length : Int) - i
def two (g h : List Op3) : Int := skE [g, h]
theorem sk_0 (l : List (List Op3)) : skI l 0 0 := ⟨⟨Int.le_refl _, by omega⟩, rfl⟩
theorem sk_next {l : List (List Op3)} {i e : Int} (hl : l.length * 24 ≤ room) (h : skI l i e) (hi : i < (l.length : Int)) :
    inB l i ∧ skI l (w64 (i + 1)) (lsF e (chkE (l.getD i.toNat []))) ∧ (decide (0 ≤ skMu l (w64 (i + 1))) = true ∧ decide (skMu l (w64 (i + 1)) < skMu l i) = true) := by
  obtain ⟨⟨h1, h2⟩, h3⟩ := h
  have e1 : w64 (i + 1) = i + 1 := w64_id (by omega) (by unfold room at hl; omega)
  rw [e1]
  refine ⟨⟨h1, hi⟩, ⟨⟨by omega, by omega⟩, ?_⟩, decide_eq_true (by unfold skMu; omega), decide_eq_true (by unfold skMu; omega)⟩
  rw [take_succ h1 hi ([] : List Op3)]
  unfold skE
  rw [List.foldl_append, h3]; rfl
theorem sk_end {l : List (List Op3)} {i e : Int} (h : skI l i e) (hi : ¬ i < (l.length : Int)) : e = skE l := by rw [h.2, take_end hi]
theorem lsF_zero {e f : Int} (h : lsF e f = 0) : e = 0 ∧ f = 0 := by
  unfold lsF at h
  split at h
  · rename_i c
    rcases c with c | c
    · exact ⟨c, h⟩
    · exact absurd h c.1
  · rename_i c
    exact absurd (.inl h) c
theorem two_eq (g h : List Op3) : two g h = lsF (chkE g) (chkE h) := by
  show lsF (lsF 0 (chkE g)) (chkE h) = _
  have : lsF 0 (chkE g) = chkE g := by unfold lsF; simp
  rw [this]
theorem two_zero {g h : List Op3} : two g h = 0 ↔ chkE g = 0 ∧ chkE h = 0 := by
  rw [two_eq]
  refine ⟨lsF_zero, ?_⟩
  rintro ⟨h1, h2⟩
  rw [h1, h2]; rfl
/-! ### Parts -/
def grP (g : List Op3) : Prop := chkE g = 0
def wiB (g h : List Op3) : Bool := h.all (memO g)
def wiL (g h : List Op3) : List Int := if wiB g h = true then h.map (idxO g) else []
def wiI (g h : List Op3) (l : List Int) (i : Int) : Prop := (0 ≤ i ∧ i ≤ (h.length : Int)) ∧ l = (h.take i.toNat).map (idxO g) ∧ ∀ o ∈ h.take i.toNat, o ∈ g
def siB (g h : List Op3) : Bool := if two g h = 0 then wiB g h else false
def boE (g h : List Op3) : Int := if two g h = 0 then (if wiB g h = true then 0 else 6) else two g h
def boT (g h : List Op3) : List (List Int) := if boE g h = 0 then tabL g else []
def boL (g h : List Op3) : List Int := if boE g h = 0 then wiL g h else []
theorem wi_iff {g h : List Op3} : wiB g h = true ↔ ∀ o ∈ h, o ∈ g := by
  unfold wiB
  rw [List.all_eq_true]
  exact ⟨fun c o ho => memO_iff.1 (c o ho), fun c o ho => memO_iff.2 (c o ho)⟩
theorem wi_0 (g h : List Op3) : wiI g h [] 0 := ⟨⟨Int.le_refl _, by omega⟩, by simp, fun o ho => by simp at ho⟩
theorem wi_no {g h : List Op3} {i : Int} (h0 : 0 ≤ i) (hi : i < (h.length : Int)) (hn : h.getD i.toNat zerO ∉ g) : wiB g h = false := by
  rw [Bool.eq_false_iff]
  exact fun c => hn (wi_iff.1 c _ (getD_mem h0 hi zerO))
theorem wi_next {g h : List Op3} {l : List Int} {i : Int} (hb : h.length * 96 ≤ room) (hI : wiI g h l i) (hi : i < (h.length : Int)) (hm : h.getD i.toNat zerO ∈ g) :
    lfit 8 (lapp l [idxO g (h.getD i.toNat zerO)]) ∧ wiI g h (lapp l [idxO g (h.getD i.toNat zerO)]) (w64 (i + 1)) ∧ (decide (0 ≤ opMu h (w64 (i + 1))) = true ∧ decide (opMu h (w64 (i + 1)) < opMu h i) = true) := by
  obtain ⟨⟨h1, h2⟩, h3, h4⟩ := hI
  obtain ⟨e1, e2, e3⟩ := opMu_next hb h1 hi
  refine ⟨?_, ?_, e2, e3⟩
  · show (l ++ [_]).length * 8 ≤ 140737488355328
    rw [h3]
    simp only [List.length_append, List.length_map, List.length_take, List.length_singleton]
    unfold room at hb; omega
  · rw [e1]
    refine ⟨⟨by omega, by omega⟩, ?_, ?_⟩
    · rw [take_succ h1 hi zerO, List.map_append, h3]; rfl
    · intro o ho
      rw [take_succ h1 hi zerO, List.mem_append, List.mem_singleton] at ho
      rcases ho with ho | ho
      · exact h4 o ho
      · rw [ho]; exact hm
theorem wi_end {g h : List Op3} {l : List Int} {i : Int} (hI : wiI g h l i) (hi : ¬ i < (h.length : Int)) : wiB g h = true ∧ wiL g h = l := by
  have h1 : wiB g h = true := wi_iff.2 fun o ho => hI.2.2 o (by rw [take_end hi]; exact ho)
  refine ⟨h1, ?_⟩
  unfold wiL
  rw [if_pos h1, hI.2.1, take_end hi]
theorem bo_zero {g h : List Op3} (hz : boE g h = 0) : chkE g = 0 ∧ chkE h = 0 ∧ (∀ o ∈ h, o ∈ g) ∧ boT g h = tabL g ∧ boL g h = h.map (idxO g) := by
  have h1 := hz
  unfold boE at h1
  split at h1
  · rename_i h2
    split at h1
    · rename_i h3
      obtain ⟨a, b⟩ := two_zero.1 h2
      refine ⟨a, b, wi_iff.1 h3, if_pos hz, ?_⟩
      unfold boL wiL
      rw [if_pos hz, if_pos h3]
    · cases h1
  · rename_i h2; exact absurd h1 h2
theorem bo_of {g h : List Op3} (h1 : chkE g = 0) (h2 : chkE h = 0) (h3 : ∀ o ∈ h, o ∈ g) : boE g h = 0 := by
  unfold boE
  rw [if_pos (two_zero.2 ⟨h1, h2⟩), if_pos (wi_iff.2 h3)]
/-- The table at two places. -/
theorem tb_at {g : List Op3} (hc : chkE g = 0) {a b : Op3} (ha : a ∈ g) (hb : b ∈ g) :
    inB (tabL g) (idxO g a) ∧ inB ((tabL g).getD (idxO g a).toNat []) (idxO g b) ∧ ((tabL g).getD (idxO g a).toNat []).getD (idxO g b).toNat 0 = idxO g (mulO a b) := by
  obtain ⟨a1, a2, a3, _⟩ := ix_in ha
  obtain ⟨b1, b2, b3, _⟩ := ix_in hb
  rw [tab_at hc a1, a2, row_at b3, b2]
  refine ⟨⟨a1.1, by rw [tab_len hc]; exact a1.2⟩, ⟨b1.1, by rw [rowO_len]; exact b1.2⟩, rfl⟩
theorem ix_self {g : List Op3} (hc : chkE g = 0) {i : Int} (h0 : 0 ≤ i) (hi : i < (g.length : Int)) : g.getD i.toNat zerO ∈ g ∧ idxO g (g.getD i.toNat zerO) = i := by
  refine ⟨getD_mem h0 hi zerO, ?_⟩
  rw [idx_at (chk_grp hc).2.1 (by omega)]; omega
theorem map_at {g h : List Op3} {j : Int} (h0 : 0 ≤ j) (hj : j < (h.length : Int)) : inB (h.map (idxO g)) j ∧ (h.map (idxO g)).getD j.toNat 0 = idxO g (h.getD j.toNat zerO) := by
  refine ⟨⟨h0, by rw [List.length_map]; exact hj⟩, ?_⟩
  have : j.toNat < h.length := by omega
  simp [List.getD, this]
/-! ### Cosets -/
def csC (g h : List Op3) : List (List Int) := if boE g h = 0 then ctL (cosA g) h g.length g.length else []
def csO (g h : List Op3) (d : List Bool) (r : List (List Int)) (a : Int) : Prop := (0 ≤ a ∧ a ≤ (g.length : Int)) ∧ d = dnL (cosA g) h g.length a.toNat [] ∧ r = ctL (cosA g) h g.length a.toNat
def csI (g h : List Op3) (a : Int) (d : List Bool) (c : List Int) (j : Int) : Prop := (0 ≤ j ∧ j ≤ (h.length : Int)) ∧ d = dnL (cosA g) h g.length a.toNat c ∧ c = (h.take j.toNat).map fun b => idxO g (mulO (g.getD a.toNat zerO) b)
section
variable {g h : List Op3} (hg : chkE g = 0) (hh : chkE h = 0) (hs : ∀ o ∈ h, o ∈ g)
include hg hh hs
theorem cs_0 : csO g h (lrep (g.length : Int) false) [] 0 := ⟨⟨Int.le_refl _, by omega⟩, dn_zero.symm, by simp [ctL, fstN]⟩
theorem cs_skip {d : List Bool} {r : List (List Int)} {a : Int} (hb : g.length * 96 ≤ room) (hI : csO g h d r a) (ha : a < (g.length : Int)) (hd : d.getD a.toNat false = true) :
    csO g h d r (w64 (a + 1)) ∧ (decide (0 ≤ opMu g (w64 (a + 1))) = true ∧ decide (opMu g (w64 (a + 1)) < opMu g a) = true) := by
  obtain ⟨⟨h1, h2⟩, h3, h4⟩ := hI
  obtain ⟨e1, e2, e3⟩ := opMu_next hb h1 ha
  have hA := cos_act hg hh hs
  rw [h3, dn_at0 hA (by omega)] at hd
  have hd := of_decide_eq_true hd
  refine ⟨?_, e2, e3⟩
  rw [e1]
  refine ⟨⟨by omega, by omega⟩, ?_, ?_⟩
  · rw [show (a + 1).toNat = a.toNat + 1 by omega, dn_skip hA hd, h3]
  · rw [show (a + 1).toNat = a.toNat + 1 by omega, ct_skip hA hd, h4]
theorem cs_in {d : List Bool} {r : List (List Int)} {a : Int} (hI : csO g h d r a) : csI g h a d [] 0 := ⟨⟨Int.le_refl _, by omega⟩, hI.2.1, by simp⟩
theorem cs_at {a j : Int} (a0 : 0 ≤ a) (ha : a < (g.length : Int)) (j0 : 0 ≤ j) (hj : j < (h.length : Int)) :
    inB (h.map (idxO g)) j ∧ inB (tabL g) a ∧ inB ((tabL g).getD a.toNat []) ((h.map (idxO g)).getD j.toNat 0) ∧ ((tabL g).getD a.toNat []).getD ((h.map (idxO g)).getD j.toNat 0).toNat 0 = idxO g (mulO (g.getD a.toNat zerO) (h.getD j.toNat zerO)) ∧
    inB (tabL g) ((h.map (idxO g)).getD j.toNat 0) ∧ inB ((tabL g).getD ((h.map (idxO g)).getD j.toNat 0).toNat []) a ∧ ((tabL g).getD ((h.map (idxO g)).getD j.toNat 0).toNat []).getD a.toNat 0 = idxO g (mulO (h.getD j.toNat zerO) (g.getD a.toNat zerO)) := by
  obtain ⟨m1, m2⟩ := map_at (g := g) j0 hj
  obtain ⟨i1, i2⟩ := ix_self hg a0 ha
  have hb := hs _ (getD_mem j0 hj zerO)
  have t1 := tb_at hg i1 hb
  have t2 := tb_at hg hb i1
  rw [i2] at t1 t2
  rw [m2]
  exact ⟨m1, t1.1, t1.2.1, t1.2.2, t2.1, t2.2.1, t2.2.2⟩
theorem cs_next {d : List Bool} {c : List Int} {a j v : Int} (hb : h.length * 96 ≤ room) (a0 : 0 ≤ a) (ha : a < (g.length : Int)) (hI : csI g h a d c j) (hj : j < (h.length : Int)) (hv : v = idxO g (mulO (g.getD a.toNat zerO) (h.getD j.toNat zerO))) :
    inB d v ∧ lfit 8 (lapp c [v]) ∧ csI g h a (lset d v true) (lapp c [v]) (w64 (j + 1)) ∧ (decide (0 ≤ opMu h (w64 (j + 1))) = true ∧ decide (opMu h (w64 (j + 1)) < opMu h j) = true) := by
  obtain ⟨⟨h1, h2⟩, h3, h4⟩ := hI
  obtain ⟨e1, e2, e3⟩ := opMu_next hb h1 hj
  obtain ⟨_, _, _, hcl⟩ := chk_grp hg
  obtain ⟨v1, v2, v3, v4⟩ := ix_in (hcl _ (getD_mem a0 ha zerO) _ (hs _ (getD_mem h1 hj zerO)))
  rw [← hv] at v1 v3 v4
  refine ⟨⟨v1.1, by rw [h3, dn_len]; exact v1.2⟩, ?_, ?_, e2, e3⟩
  · show (c ++ [v]).length * 8 ≤ 140737488355328
    rw [h4]
    simp only [List.length_append, List.length_map, List.length_take, List.length_singleton]
    unfold room at hb; omega
  · rw [e1]
    refine ⟨⟨by omega, by omega⟩, ?_, ?_⟩
    · rw [h3, dn_set v1.1 v1.2]
    · rw [take_succ h1 hj zerO, List.map_append, h4, hv]; rfl
theorem cs_done {d e : List Bool} {r : List (List Int)} {c : List Int} {a j : Int} (hb : g.length * 96 ≤ room) (hO : csO g h d r a) (ha : a < (g.length : Int)) (hd : d.getD a.toNat false = false) (hI : csI g h a e c j) (hj : ¬ j < (h.length : Int)) :
    lfit 24 (lapp r [srtI c]) ∧ csO g h e (lapp r [srtI c]) (w64 (a + 1)) ∧ (decide (0 ≤ opMu g (w64 (a + 1))) = true ∧ decide (opMu g (w64 (a + 1)) < opMu g a) = true) := by
  obtain ⟨⟨h1, h2⟩, h3, h4⟩ := hO
  obtain ⟨e1, e2, e3⟩ := opMu_next hb h1 ha
  have hA := cos_act hg hh hs
  rw [h3, dn_at0 hA (by omega)] at hd
  have hlo : loN (cosA g) h a.toNat = a.toNat := Classical.byContradiction fun c => by
    rw [decide_eq_true c] at hd; cases hd
  obtain ⟨_, g2, g3⟩ := hI
  rw [take_end hj] at g3
  have hm : ∀ x : Int, x ∈ c ↔ ∃ k : Nat, k < g.length ∧ loN (cosA g) h k = a.toNat ∧ x = (k : Int) := fun x => by
    rw [g3]
    have := cos_mem hg hh hs (show a.toNat < g.length by omega) x
    rw [hlo] at this
    exact this
  have hn : c.Nodup := by rw [g3]; exact cos_nodup hg hh hs (getD_mem h1 ha zerO)
  refine ⟨?_, ?_, e2, e3⟩
  · show (r ++ [_]).length * 24 ≤ 140737488355328
    have := ctL_len hA a.toNat
    rw [h4, List.length_append, List.length_singleton]
    unfold room at hb; omega
  · rw [e1]
    refine ⟨⟨by omega, by omega⟩, ?_, ?_⟩
    · rw [show (a + 1).toNat = a.toNat + 1 by omega, g2, dn_end hA hm]
    · rw [show (a + 1).toNat = a.toNat + 1 by omega, ct_step hA hlo, h4, orb_srt hn hm]
omit hg hh hs in
theorem cs_end {d : List Bool} {r : List (List Int)} {a : Int} (hz : boE g h = 0) (hO : csO g h d r a) (ha : ¬ a < (g.length : Int)) : r = csC g h := by
  obtain ⟨⟨h1, h2⟩, h3, h4⟩ := hO
  unfold csC
  rw [if_pos hz, h4, show a.toNat = g.length by omega]
end
/-! ### Normal parts -/
def lfL (g h : List Op3) (a j : Nat) : List Int := (h.take j).map fun b => idxO g (mulO (g.getD a zerO) b)
def rgL (g h : List Op3) (a j : Nat) : List Int := (h.take j).map fun b => idxO g (mulO b (g.getD a zerO))
def nrA (g h : List Op3) (a : Nat) : Bool := decide (srtI (lfL g h a h.length) = srtI (rgL g h a h.length))
def noB (g h : List Op3) : Bool := if boE g h = 0 then (List.range g.length).all (nrA g h) else false
def noO (g h : List Op3) (b : Bool) (a : Int) : Prop := (0 ≤ a ∧ a ≤ (g.length : Int)) ∧ b = true ∧ ∀ k, k < a.toNat → nrA g h k = true
def noI (g h : List Op3) (a : Int) (l r : List Int) (j : Int) : Prop := (0 ≤ j ∧ j ≤ (h.length : Int)) ∧ l = lfL g h a.toNat j.toNat ∧ r = rgL g h a.toNat j.toNat
def noS (l r : List Int) (b : Bool) (i : Int) : Prop := (0 ≤ i ∧ i ≤ (l.length : Int)) ∧ b = true ∧ ∀ k, k < i.toNat → l.getD k 0 = r.getD k 0
theorem srtI_len (l : List Int) : (srtI l).length = l.length := (insG_perm (c := icm) l).length_eq
theorem no_0 (g h : List Op3) : noO g h true 0 := ⟨⟨Int.le_refl _, by omega⟩, rfl, fun k hk => by simp at hk⟩
theorem no_in (g h : List Op3) (a : Int) : noI g h a [] [] 0 := ⟨⟨Int.le_refl _, by omega⟩, by simp [lfL], by simp [rgL]⟩
theorem no_next {g h : List Op3} {l r : List Int} {a j : Int} (hb : h.length * 96 ≤ room) (hI : noI g h a l r j) (hj : j < (h.length : Int)) :
    lfit 8 (lapp l [idxO g (mulO (g.getD a.toNat zerO) (h.getD j.toNat zerO))]) ∧ lfit 8 (lapp r [idxO g (mulO (h.getD j.toNat zerO) (g.getD a.toNat zerO))]) ∧
    noI g h a (lapp l [idxO g (mulO (g.getD a.toNat zerO) (h.getD j.toNat zerO))]) (lapp r [idxO g (mulO (h.getD j.toNat zerO) (g.getD a.toNat zerO))]) (w64 (j + 1)) ∧ (decide (0 ≤ opMu h (w64 (j + 1))) = true ∧ decide (opMu h (w64 (j + 1)) < opMu h j) = true) := by
  obtain ⟨⟨h1, h2⟩, h3, h4⟩ := hI
  obtain ⟨e1, e2, e3⟩ := opMu_next hb h1 hj
  refine ⟨?_, ?_, ?_, e2, e3⟩
  · show (l ++ [_]).length * 8 ≤ 140737488355328
    rw [h3]; unfold lfL
    simp only [List.length_append, List.length_map, List.length_take, List.length_singleton]
    unfold room at hb; omega
  · show (r ++ [_]).length * 8 ≤ 140737488355328
    rw [h4]; unfold rgL
    simp only [List.length_append, List.length_map, List.length_take, List.length_singleton]
    unfold room at hb; omega
  · rw [e1]
    refine ⟨⟨by omega, by omega⟩, ?_, ?_⟩
    · unfold lfL; rw [take_succ h1 hj zerO, List.map_append, h3]; rfl
    · unfold rgL; rw [take_succ h1 hj zerO, List.map_append, h4]; rfl
theorem no_full {g h : List Op3} {l r : List Int} {a j : Int} (hI : noI g h a l r j) (hj : ¬ j < (h.length : Int)) : srtI l = srtI (lfL g h a.toNat h.length) ∧ srtI r = srtI (rgL g h a.toNat h.length) ∧ (srtI l).length = h.length ∧ (srtI r).length = h.length := by
  obtain ⟨⟨h1, h2⟩, h3, h4⟩ := hI
  have e : j.toNat = h.length := by omega
  rw [e] at h3 h4
  rw [srtI_len, srtI_len, h3, h4]
  exact ⟨rfl, rfl, by simp [lfL], by simp [rgL]⟩
theorem ns_0 (l r : List Int) : noS l r true 0 := ⟨⟨Int.le_refl _, by omega⟩, rfl, fun k hk => by simp at hk⟩
theorem ns_next {l r : List Int} {b : Bool} {i : Int} (hl : l.length * 8 ≤ room) (h : noS l r b i) (hi : i < (l.length : Int)) (he : l.getD i.toNat 0 = r.getD i.toNat 0) :
    noS l r b (w64 (i + 1)) ∧ (decide (0 ≤ inMu l (w64 (i + 1))) = true ∧ decide (inMu l (w64 (i + 1)) < inMu l i) = true) := by
  obtain ⟨⟨h1, h2⟩, h3, h4⟩ := h
  have e1 : w64 (i + 1) = i + 1 := w64_id (by omega) (by unfold room at hl; omega)
  rw [e1]
  refine ⟨⟨⟨by omega, by omega⟩, h3, fun k hk => ?_⟩, decide_eq_true (by unfold inMu; omega), decide_eq_true (by unfold inMu; omega)⟩
  rcases Nat.lt_or_ge k i.toNat with c | c
  · exact h4 k c
  · rw [show k = i.toNat by omega]; exact he
theorem ns_end {l r : List Int} {b : Bool} {i : Int} (hl : l.length = r.length) (h : noS l r b i) (hi : ¬ i < (l.length : Int)) : l = r := by
  refine List.ext_getElem hl fun k h1 h2 => ?_
  have := h.2.2 k (by have := h.1; omega)
  simpa [List.getD, h1, h2] using this
theorem no_bad {g h : List Op3} {a : Int} (hz : boE g h = 0) (a0 : 0 ≤ a) (ha : a < (g.length : Int)) (hn : srtI (lfL g h a.toNat h.length) ≠ srtI (rgL g h a.toNat h.length)) : noB g h = false := by
  unfold noB
  rw [if_pos hz, Bool.eq_false_iff]
  intro c
  exact hn (of_decide_eq_true ((List.all_eq_true.1 c) a.toNat (List.mem_range.2 (by omega))))
theorem no_step {g h : List Op3} {b : Bool} {a : Int} (hb : g.length * 96 ≤ room) (hO : noO g h b a) (ha : a < (g.length : Int)) (he : srtI (lfL g h a.toNat h.length) = srtI (rgL g h a.toNat h.length)) {b2 : Bool} (h2 : b2 = true) :
    noO g h b2 (w64 (a + 1)) ∧ (decide (0 ≤ opMu g (w64 (a + 1))) = true ∧ decide (opMu g (w64 (a + 1)) < opMu g a) = true) := by
  obtain ⟨⟨h1, h3⟩, h4, h5⟩ := hO
  obtain ⟨e1, e2, e3⟩ := opMu_next hb h1 ha
  refine ⟨?_, e2, e3⟩
  rw [e1]
  refine ⟨⟨by omega, by omega⟩, h2, fun k hk => ?_⟩
  rcases Nat.lt_or_ge k a.toNat with c | c
  · exact h5 k c
  · rw [show k = a.toNat by omega]; exact decide_eq_true he
theorem no_end {g h : List Op3} {b : Bool} {a : Int} (hz : boE g h = 0) (hO : noO g h b a) (ha : ¬ a < (g.length : Int)) : b = noB g h := by
  obtain ⟨⟨h1, h3⟩, h4, h5⟩ := hO
  unfold noB
  rw [if_pos hz, h4]
  exact (List.all_eq_true.2 fun k hk => h5 k (by have := List.mem_range.1 hk; omega)).symm
/-! ### Meet and Join -/
def meL (g h : List Op3) : List Op3 := if two g h = 0 then g.filter (memO h) else []
def meI (g h l : List Op3) (i : Int) : Prop := (0 ≤ i ∧ i ≤ (g.length : Int)) ∧ l = (g.take i.toNat).filter (memO h)
def joM (g h : List Op3) : List Op3 := g ++ h.filter fun o => !memO g o
def joL (g h : List Op3) : List Op3 := if two g h = 0 then (if 192 < ((joM g h).length : Int) then [] else cloL (joM g h)) else []
def joE (g h : List Op3) : Int := if two g h = 0 then (if 192 < ((joM g h).length : Int) then 5 else cloE (joM g h)) else two g h
def joI (g h l : List Op3) (i : Int) : Prop := (0 ≤ i ∧ i ≤ (h.length : Int)) ∧ l = g ++ (h.take i.toNat).filter fun o => !memO g o
theorem fil_snoc {α : Type} (p : α → Bool) (l : List α) (x : α) : (l ++ [x]).filter p = if p x = true then l.filter p ++ [x] else l.filter p := by
  rw [List.filter_append]
  split
  · rename_i h; rw [List.filter_cons_of_pos h]; rfl
  · rename_i h; rw [List.filter_cons_of_neg h]; simp
theorem me_0 (g h : List Op3) : meI g h [] 0 := ⟨⟨Int.le_refl _, by omega⟩, by simp⟩
theorem me_next {g h l : List Op3} {i : Int} (hb : g.length * 96 ≤ room) (hI : meI g h l i) (hi : i < (g.length : Int)) :
    (memO h (g.getD i.toNat zerO) = true → lfit 96 (lapp l [g.getD i.toNat zerO]) ∧ meI g h (lapp l [g.getD i.toNat zerO]) (w64 (i + 1))) ∧ (memO h (g.getD i.toNat zerO) = false → meI g h l (w64 (i + 1))) ∧ (decide (0 ≤ opMu g (w64 (i + 1))) = true ∧ decide (opMu g (w64 (i + 1)) < opMu g i) = true) := by
  obtain ⟨⟨h1, h2⟩, h3⟩ := hI
  obtain ⟨e1, e2, e3⟩ := opMu_next hb h1 hi
  rw [e1]
  rw [e1] at e2 e3
  have hl : l.length ≤ i.toNat := by
    rw [h3]; exact Nat.le_trans (List.length_filter_le _ _) (by rw [List.length_take]; omega)
  refine ⟨fun hm => ⟨?_, ⟨by omega, by omega⟩, ?_⟩, fun hm => ⟨⟨by omega, by omega⟩, ?_⟩, e2, e3⟩
  · show (l ++ [_]).length * 96 ≤ 140737488355328
    rw [List.length_append, List.length_singleton]; unfold room at hb; omega
  · rw [take_succ h1 hi zerO, fil_snoc, if_pos hm, h3]; rfl
  · rw [take_succ h1 hi zerO, fil_snoc, if_neg (by rw [hm]; decide), h3]
theorem me_end {g h l : List Op3} {i : Int} (hz : two g h = 0) (hI : meI g h l i) (hi : ¬ i < (g.length : Int)) : l = meL g h := by
  unfold meL
  rw [if_pos hz, hI.2, take_end hi]
theorem jo_0 (g h : List Op3) : joI g h (lapp [] g) 0 := ⟨⟨Int.le_refl _, by omega⟩, by simp [lapp]⟩
theorem jo_next {g h l : List Op3} {i : Int} (hg : g.length ≤ 192) (hb : h.length * 96 ≤ room) (hh : h.length ≤ 192) (hI : joI g h l i) (hi : i < (h.length : Int)) :
    (memO g (h.getD i.toNat zerO) = false → lfit 96 (lapp l [h.getD i.toNat zerO]) ∧ joI g h (lapp l [h.getD i.toNat zerO]) (w64 (i + 1))) ∧ (memO g (h.getD i.toNat zerO) = true → joI g h l (w64 (i + 1))) ∧ (decide (0 ≤ opMu h (w64 (i + 1))) = true ∧ decide (opMu h (w64 (i + 1)) < opMu h i) = true) := by
  obtain ⟨⟨h1, h2⟩, h3⟩ := hI
  obtain ⟨e1, e2, e3⟩ := opMu_next hb h1 hi
  rw [e1]
  rw [e1] at e2 e3
  have hl : l.length ≤ 192 + i.toNat := by
    rw [h3, List.length_append]
    have := List.length_filter_le (fun o => !memO g o) (h.take i.toNat)
    rw [List.length_take] at this
    omega
  refine ⟨fun hm => ⟨?_, ⟨by omega, by omega⟩, ?_⟩, fun hm => ⟨⟨by omega, by omega⟩, ?_⟩, e2, e3⟩
  · show (l ++ [_]).length * 96 ≤ 140737488355328
    rw [List.length_append, List.length_singleton]; omega
  · rw [take_succ h1 hi zerO, fil_snoc, if_pos (by rw [hm]; rfl), h3, ← List.append_assoc]; rfl
  · rw [take_succ h1 hi zerO, fil_snoc, if_neg (by rw [hm]; decide), h3]
theorem jo_end {g h l : List Op3} {i : Int} (hI : joI g h l i) (hi : ¬ i < (h.length : Int)) : l = joM g h := by
  unfold joM
  rw [hI.2, take_end hi]
/-! ### Classes -/
def clC (g : List Op3) : List (List Int) := if chkE g = 0 then ctL (conA g) g g.length g.length else []
def clO (g : List Op3) (d : List Bool) (r : List (List Int)) (b : Int) : Prop := (0 ≤ b ∧ b ≤ (g.length : Int)) ∧ d = dnL (conA g) g g.length b.toNat [] ∧ r = ctL (conA g) g g.length b.toNat
def cjO (g : List Op3) (b : Int) (o : Op3) : Int := idxO g (mulO (mulO o (g.getD b.toNat zerO)) (invO o))
def clI (g : List Op3) (b : Int) (d : List Bool) (c : List Int) (a : Int) : Prop := (0 ≤ a ∧ a ≤ (g.length : Int)) ∧ d = dnL (conA g) g g.length b.toNat c ∧ c.Nodup ∧ c.length ≤ a.toNat ∧ ∀ x : Int, x ∈ c ↔ ∃ o ∈ g.take a.toNat, x = cjO g b o
section
variable {g : List Op3} (hg : chkE g = 0)
include hg
theorem cl_0 : clO g (lrep (g.length : Int) false) [] 0 := ⟨⟨Int.le_refl _, by omega⟩, dn_zero.symm, by simp [ctL, fstN]⟩
theorem cl_skip {d : List Bool} {r : List (List Int)} {a : Int} (hb : g.length * 96 ≤ room) (hI : clO g d r a) (ha : a < (g.length : Int)) (hd : d.getD a.toNat false = true) :
    clO g d r (w64 (a + 1)) ∧ (decide (0 ≤ opMu g (w64 (a + 1))) = true ∧ decide (opMu g (w64 (a + 1)) < opMu g a) = true) := by
  obtain ⟨⟨h1, h2⟩, h3, h4⟩ := hI
  obtain ⟨e1, e2, e3⟩ := opMu_next hb h1 ha
  have hA := con_act hg
  rw [h3, dn_at0 hA (by omega)] at hd
  have hd := of_decide_eq_true hd
  refine ⟨?_, e2, e3⟩
  rw [e1]
  refine ⟨⟨by omega, by omega⟩, ?_, ?_⟩
  · rw [show (a + 1).toNat = a.toNat + 1 by omega, dn_skip hA hd, h3]
  · rw [show (a + 1).toNat = a.toNat + 1 by omega, ct_skip hA hd, h4]
theorem cl_in {d : List Bool} {r : List (List Int)} {b : Int} (hI : clO g d r b) : clI g b d [] 0 := ⟨⟨Int.le_refl _, by omega⟩, hI.2.1, List.nodup_nil, by simp, fun x => by simp⟩
theorem cl_at {a b : Int} (a0 : 0 ≤ a) (ha : a < (g.length : Int)) (b0 : 0 ≤ b) (hb : b < (g.length : Int)) :
    inB (tabL g) a ∧ inB ((tabL g).getD a.toNat []) b ∧ inB (tabL g) (((tabL g).getD a.toNat []).getD b.toNat 0) ∧ inB (invL g) a ∧ inB ((tabL g).getD (((tabL g).getD a.toNat []).getD b.toNat 0).toNat []) ((invL g).getD a.toNat 0) ∧
    ((tabL g).getD (((tabL g).getD a.toNat []).getD b.toNat 0).toNat []).getD ((invL g).getD a.toNat 0).toNat 0 = cjO g b (g.getD a.toNat zerO) := by
  obtain ⟨_, _, _, hcl⟩ := chk_grp hg
  obtain ⟨i1, i2⟩ := ix_self hg a0 ha
  obtain ⟨j1, j2⟩ := ix_self hg b0 hb
  have t1 := tb_at hg i1 j1
  rw [i2, j2] at t1
  obtain ⟨v1, v2, _⟩ := inv_at hg (i := a) ⟨a0, ha⟩
  have v3 : (invL g).getD a.toNat 0 = idxO g (invO (g.getD a.toNat zerO)) := by
    rw [← v2, (ix_self hg v1.1 v1.2).2]
  have hiv := (inv_in hg i1).1
  have t2 := tb_at hg (hcl _ i1 _ j1) hiv
  rw [t1.2.2, v3]
  exact ⟨t1.1, t1.2.1, t2.1, ⟨a0, by rw [inv_len hg]; exact ha⟩, t2.2.1, t2.2.2⟩
theorem cj_in {a b : Int} (a0 : 0 ≤ a) (ha : a < (g.length : Int)) (b0 : 0 ≤ b) (hb : b < (g.length : Int)) : 0 ≤ cjO g b (g.getD a.toNat zerO) ∧ cjO g b (g.getD a.toNat zerO) < (g.length : Int) := by
  obtain ⟨_, _, _, hcl⟩ := chk_grp hg
  have i1 := getD_mem a0 ha zerO
  have h := (ix_in (hcl _ (hcl _ i1 _ (getD_mem b0 hb zerO)) _ (inv_in hg i1).1)).1
  exact ⟨h.1, h.2⟩
theorem cl_next {d : List Bool} {c : List Int} {a b v : Int} (hbd : g.length * 96 ≤ room) (b0 : 0 ≤ b) (hb : b < (g.length : Int)) (hlo : loN (conA g) g b.toNat = b.toNat) (hI : clI g b d c a) (ha : a < (g.length : Int)) (hv : v = cjO g b (g.getD a.toNat zerO)) :
    inB d v ∧ (d.getD v.toNat false = false → lfit 8 (lapp c [v]) ∧ clI g b (lset d v true) (lapp c [v]) (w64 (a + 1))) ∧ (d.getD v.toNat false = true → clI g b d c (w64 (a + 1))) ∧ (decide (0 ≤ opMu g (w64 (a + 1))) = true ∧ decide (opMu g (w64 (a + 1)) < opMu g a) = true) := by
  obtain ⟨⟨h1, h2⟩, h3, h4, h5, h6⟩ := hI
  obtain ⟨e1, e2, e3⟩ := opMu_next hbd h1 ha
  have hA := con_act hg
  have hvb := cj_in hg h1 ha b0 hb
  rw [← hv] at hvb
  have hvN : v.toNat < g.length := by omega
  have hvv : ((v.toNat : Nat) : Int) = v := by omega
  have hlv : loN (conA g) g v.toNat = b.toNat := by
    obtain ⟨k, k1, k2, k3⟩ := (con_mem hg (show b.toNat < g.length by omega) v).1 ⟨_, getD_mem h1 ha zerO, hv⟩
    have : v.toNat = k := by omega
    rw [this, k2, hlo]
  have hd : d.getD v.toNat false = decide (v ∈ c) := by
    rw [h3, dn_at hvN, hlv, hvv, decide_eq_false (Nat.lt_irrefl _), Bool.false_or]
  rw [e1]
  rw [e1] at e2 e3
  rw [hd]
  have hmem : ∀ x : Int, (∃ o ∈ g.take (a + 1).toNat, x = cjO g b o) ↔ (∃ o ∈ g.take a.toNat, x = cjO g b o) ∨ x = v := fun x => by
    rw [take_succ h1 ha zerO]
    constructor
    · rintro ⟨o, ho, hx⟩
      rcases List.mem_append.1 ho with ho | ho
      · exact .inl ⟨o, ho, hx⟩
      · rw [List.mem_singleton.1 ho] at hx; exact .inr (hx.trans hv.symm)
    · rintro (⟨o, ho, hx⟩ | hx)
      · exact ⟨o, List.mem_append.2 (.inl ho), hx⟩
      · exact ⟨_, List.mem_append.2 (.inr (List.mem_singleton.2 rfl)), hx.trans hv⟩
  refine ⟨⟨hvb.1, by rw [h3, dn_len]; exact hvb.2⟩, fun hn => ⟨?_, ⟨by omega, by omega⟩, ?_, ?_, ?_, fun x => ?_⟩, fun hy => ⟨⟨by omega, by omega⟩, h3, h4, by omega, fun x => ?_⟩, e2, e3⟩
  · show (c ++ [v]).length * 8 ≤ 140737488355328
    rw [List.length_append, List.length_singleton]; unfold room at hbd; omega
  · rw [h3, dn_set hvb.1 hvb.2]
  · have hn := of_decide_eq_false hn
    show (c ++ [v]).Nodup
    rw [List.nodup_append]
    exact ⟨h4, by simp, fun x hx y hy => by rw [List.mem_singleton.1 hy]; exact fun e => hn (e ▸ hx)⟩
  · show (c ++ [v]).length ≤ _
    rw [List.length_append, List.length_singleton]; omega
  · rw [hmem]
    show x ∈ c ++ [v] ↔ _
    rw [List.mem_append, List.mem_singleton, h6]
  · rw [hmem, h6]
    refine ⟨.inl, fun h => h.elim id fun e => ?_⟩
    rw [e]; exact (h6 v).1 (of_decide_eq_true hy)
theorem cl_lo {d : List Bool} {r : List (List Int)} {b : Int} (hO : clO g d r b) (hb : b < (g.length : Int)) (hd : d.getD b.toNat false = false) : loN (conA g) g b.toNat = b.toNat := by
  obtain ⟨⟨h1, h2⟩, h3, h4⟩ := hO
  rw [h3, dn_at0 (con_act hg) (by omega)] at hd
  exact Classical.byContradiction fun c => by rw [decide_eq_true c] at hd; cases hd
theorem cl_done {d e : List Bool} {r : List (List Int)} {c : List Int} {b a : Int} (hbd : g.length * 96 ≤ room) (hO : clO g d r b) (hb : b < (g.length : Int)) (hd : d.getD b.toNat false = false) (hI : clI g b e c a) (ha : ¬ a < (g.length : Int)) :
    lfit 24 (lapp r [srtI c]) ∧ clO g e (lapp r [srtI c]) (w64 (b + 1)) ∧ (decide (0 ≤ opMu g (w64 (b + 1))) = true ∧ decide (opMu g (w64 (b + 1)) < opMu g b) = true) := by
  have hlo := cl_lo hg hO hb hd
  obtain ⟨⟨h1, h2⟩, h3, h4⟩ := hO
  obtain ⟨e1, e2, e3⟩ := opMu_next hbd h1 hb
  have hA := con_act hg
  obtain ⟨_, g2, g3, _, g5⟩ := hI
  rw [take_end ha] at g5
  have hm : ∀ x : Int, x ∈ c ↔ ∃ k : Nat, k < g.length ∧ loN (conA g) g k = b.toNat ∧ x = (k : Int) := fun x => by
    rw [g5]
    have := con_mem hg (show b.toNat < g.length by omega) x
    rw [hlo] at this
    exact this
  refine ⟨?_, ?_, e2, e3⟩
  · show (r ++ [_]).length * 24 ≤ 140737488355328
    have := ctL_len hA b.toNat
    rw [h4, List.length_append, List.length_singleton]
    unfold room at hbd; omega
  · rw [e1]
    refine ⟨⟨by omega, by omega⟩, ?_, ?_⟩
    · rw [show (b + 1).toNat = b.toNat + 1 by omega, g2, dn_end hA hm]
    · rw [show (b + 1).toNat = b.toNat + 1 by omega, ct_step hA hlo, h4, orb_srt g3 hm]
theorem cl_end {d : List Bool} {r : List (List Int)} {a : Int} (hO : clO g d r a) (ha : ¬ a < (g.length : Int)) : r = clC g := by
  obtain ⟨⟨h1, h2⟩, h3, h4⟩ := hO
  unfold clC
  rw [if_pos hg, h4, show a.toNat = g.length by omega]
end
/-! ### The heart -/
def heA (g : List Op3) (o : Op3) : Bool := g.all fun b => eqO (mulO o b) (mulO b o)
def heL (g : List Op3) : List Op3 := if chkE g = 0 then g.filter (heA g) else []
def heO (g l : List Op3) (i : Int) : Prop := (0 ≤ i ∧ i ≤ (g.length : Int)) ∧ l = (g.take i.toNat).filter (heA g)
def heI (g : List Op3) (i j : Int) : Prop := (0 ≤ j ∧ j ≤ (g.length : Int)) ∧ ∀ b ∈ g.take j.toNat, mulO (g.getD i.toNat zerO) b = mulO b (g.getD i.toNat zerO)
theorem he_0 (g : List Op3) : heO g [] 0 := ⟨⟨Int.le_refl _, by omega⟩, by simp⟩
theorem he_in (g : List Op3) (i : Int) : heI g i 0 := ⟨⟨Int.le_refl _, by omega⟩, fun b hb => by simp at hb⟩
theorem he_at {g : List Op3} (hg : chkE g = 0) {a b : Int} (a0 : 0 ≤ a) (ha : a < (g.length : Int)) (b0 : 0 ≤ b) (hb : b < (g.length : Int)) :
    inB (tabL g) a ∧ inB ((tabL g).getD a.toNat []) b ∧ inB (tabL g) b ∧ inB ((tabL g).getD b.toNat []) a ∧ (decide (((tabL g).getD a.toNat []).getD b.toNat 0 = ((tabL g).getD b.toNat []).getD a.toNat 0) = decide (mulO (g.getD a.toNat zerO) (g.getD b.toNat zerO) = mulO (g.getD b.toNat zerO) (g.getD a.toNat zerO))) := by
  obtain ⟨_, _, _, hcl⟩ := chk_grp hg
  obtain ⟨i1, i2⟩ := ix_self hg a0 ha
  obtain ⟨j1, j2⟩ := ix_self hg b0 hb
  have t1 := tb_at hg i1 j1
  have t2 := tb_at hg j1 i1
  rw [i2, j2] at t1 t2
  refine ⟨t1.1, t1.2.1, t2.1, t2.2.1, ?_⟩
  rw [t1.2.2, t2.2.2, Bool.eq_iff_iff, decide_eq_true_iff, decide_eq_true_iff]
  exact ⟨idxO_inj (hcl _ i1 _ j1) (hcl _ j1 _ i1), fun e => by rw [e]⟩
theorem he_next {g : List Op3} {i j : Int} (hb : g.length * 96 ≤ room) (hI : heI g i j) (hj : j < (g.length : Int)) (he : mulO (g.getD i.toNat zerO) (g.getD j.toNat zerO) = mulO (g.getD j.toNat zerO) (g.getD i.toNat zerO)) :
    heI g i (w64 (j + 1)) ∧ (decide (0 ≤ opMu g (w64 (j + 1))) = true ∧ decide (opMu g (w64 (j + 1)) < opMu g j) = true) := by
  obtain ⟨⟨h1, h2⟩, h3⟩ := hI
  obtain ⟨e1, e2, e3⟩ := opMu_next hb h1 hj
  refine ⟨?_, e2, e3⟩
  rw [e1]
  refine ⟨⟨by omega, by omega⟩, fun b hb => ?_⟩
  rw [take_succ h1 hj zerO, List.mem_append, List.mem_singleton] at hb
  rcases hb with hb | hb
  · exact h3 b hb
  · rw [hb]; exact he
theorem he_skip {g l : List Op3} {i : Int} (hb : g.length * 96 ≤ room) (hO : heO g l i) (hi : i < (g.length : Int)) (hn : heA g (g.getD i.toNat zerO) = false) :
    heO g l (w64 (i + 1)) ∧ (decide (0 ≤ opMu g (w64 (i + 1))) = true ∧ decide (opMu g (w64 (i + 1)) < opMu g i) = true) := by
  obtain ⟨⟨h1, h2⟩, h3⟩ := hO
  obtain ⟨e1, e2, e3⟩ := opMu_next hb h1 hi
  refine ⟨?_, e2, e3⟩
  rw [e1]
  refine ⟨⟨by omega, by omega⟩, ?_⟩
  rw [take_succ h1 hi zerO, fil_snoc, if_neg (by rw [hn]; decide), h3]
theorem he_bad {g : List Op3} {o b : Op3} (hb : b ∈ g) (h : mulO o b ≠ mulO b o) : heA g o = false := by
  rw [Bool.eq_false_iff]
  intro c
  exact h (eqO_iff.1 ((List.all_eq_true.1 c) b hb))
theorem he_add {g l : List Op3} {i j : Int} (hb : g.length * 96 ≤ room) (hO : heO g l i) (hi : i < (g.length : Int)) (hI : heI g i j) (hj : ¬ j < (g.length : Int)) :
    lfit 96 (lapp l [g.getD i.toNat zerO]) ∧ heO g (lapp l [g.getD i.toNat zerO]) (w64 (i + 1)) ∧ (decide (0 ≤ opMu g (w64 (i + 1))) = true ∧ decide (opMu g (w64 (i + 1)) < opMu g i) = true) := by
  obtain ⟨⟨h1, h2⟩, h3⟩ := hO
  obtain ⟨e1, e2, e3⟩ := opMu_next hb h1 hi
  have hy : heA g (g.getD i.toNat zerO) = true := List.all_eq_true.2 fun b hb => eqO_iff.2 (hI.2 b (by rw [take_end hj]; exact hb))
  have hl : l.length ≤ i.toNat := by
    rw [h3]; exact Nat.le_trans (List.length_filter_le _ _) (by rw [List.length_take]; omega)
  refine ⟨?_, ?_, e2, e3⟩
  · show (l ++ [_]).length * 96 ≤ 140737488355328
    rw [List.length_append, List.length_singleton]; unfold room at hb; omega
  · rw [e1]
    refine ⟨⟨by omega, by omega⟩, ?_⟩
    rw [take_succ h1 hi zerO, fil_snoc, if_pos hy, h3]; rfl
theorem he_end {g l : List Op3} {i : Int} (hg : chkE g = 0) (hO : heO g l i) (hi : ¬ i < (g.length : Int)) : l = heL g := by
  unfold heL
  rw [if_pos hg, hO.2, take_end hi]
/-! ### Lists of lists that are alike -/
def smC (a b : List (List Int)) : Bool := decide (a = b)
def smCi (a b : List (List Int)) (i : Int) : Prop := (0 ≤ i ∧ i ≤ (a.length : Int)) ∧ a.length = b.length ∧ ∀ k, k < i.toNat → a.getD k [] = b.getD k []
theorem smC_0 {a b : List (List Int)} (hl : a.length = b.length) : smCi a b 0 := ⟨⟨Int.le_refl _, by omega⟩, hl, fun k hk => by simp at hk⟩
theorem smC_next {a b : List (List Int)} {i : Int} (hb : a.length * 24 ≤ room) (h : smCi a b i) (hi : i < (a.length : Int)) (he : a.getD i.toNat [] = b.getD i.toNat []) :
    smCi a b (w64 (i + 1)) ∧ (decide (0 ≤ liMu a (w64 (i + 1))) = true ∧ decide (liMu a (w64 (i + 1)) < liMu a i) = true) := by
  obtain ⟨⟨h1, h2⟩, h3, h4⟩ := h
  have e1 : w64 (i + 1) = i + 1 := w64_id (by omega) (by unfold room at hb; omega)
  rw [e1]
  refine ⟨⟨⟨by omega, by omega⟩, h3, fun k hk => ?_⟩, decide_eq_true (by unfold liMu; omega), decide_eq_true (by unfold liMu; omega)⟩
  rcases Nat.lt_or_ge k i.toNat with c | c
  · exact h4 k c
  · rw [show k = i.toNat by omega]; exact he
theorem smC_end {a b : List (List Int)} {i : Int} (h : smCi a b i) (hi : ¬ i < (a.length : Int)) : a = b := by
  refine List.ext_getElem h.2.1 fun k h1 h2 => ?_
  have := h.2.2 k (by have := h.1; omega)
  simpa [List.getD, h1, h2] using this
/-! ### Examples -/
def flO (x y z : Int) (t : V3) : Op3 := Op3.mk (M3.mk x 0 0 0 y 0 0 0 z) t
def foU : List Op3 := [flO (-1) (-1) 1 (V3.mk 0 0 0), flO (-1) 1 (-1) (V3.mk 0 0 0), flO 1 (-1) (-1) (V3.mk 0 0 0), flO 1 1 1 (V3.mk 0 0 0)]
def paH : List Op3 := [flO (-1) (-1) 1 (V3.mk 0 0 0), flO 1 1 1 (V3.mk 0 0 0)]
def twF : List Op3 := [flO (-1) 1 (-1) (V3.mk 0 0 0), flO 1 1 1 (V3.mk 0 0 0)]
theorem hw1 : csC foU paH = [[0, 3], [1, 2]] := by decide +kernel
theorem hw2 : boE foU paH = 0 := by decide +kernel
theorem hw3 : noB foU paH = true := by decide +kernel
theorem hw4 : joE paH twF = 0 := by decide +kernel
theorem hw5 : joL paH twF = foU := by decide +kernel
end Go.Fx
