/-
  Layer 6 in Lean: the document's Join.
-/
import Derived.Test.YtcadkndjcneedaaGreatHj
set_option linter.unusedSimpArgs false
set_option linter.unusedVariables false
set_option linter.unusedSectionVars false
namespace Go.Fx
open Go
def djM (i : Int) : Int := 192 - i
structure DjB (g h l : List Op3) : Prop where
  gen : ∀ o ∈ l, Gen (joM g h) o ∧ Frm o
  nodup : l.Nodup
  len : l.length ≤ 192
  sub : ∀ o ∈ g, o ∈ l
def djC (g h l : List Op3) (i : Int) : Prop := ∀ k : Nat, (k : Int) < i → ∀ o : Op3, (o ∈ g ∨ o ∈ h) → mulO (l.getD k zerO) o ∈ l ∧ mulO o (l.getD k zerO) ∈ l
def djA (l : List Op3) (i : Int) (A : List Op3) : Prop := ∀ o ∈ A, mulO (l.getD i.toNat zerO) o ∈ l ∧ mulO o (l.getD i.toNat zerO) ∈ l
def djO (g h l : List Op3) (i : Int) : Prop := (0 ≤ i ∧ i ≤ (l.length : Int)) ∧ DjB g h l ∧ djC g h l i
def djI (g h k : List Op3) (i : Int) (l : List Op3) (j : Int) : Prop := (0 ≤ i ∧ i < (l.length : Int)) ∧ (0 ≤ j ∧ j ≤ (h.length : Int)) ∧ DjB g h l ∧ djC g h l i ∧ djA l i (h.take j.toNat)
def djK (g h : List Op3) (i : Int) (l : List Op3) (j : Int) : Prop := (0 ≤ i ∧ i < (l.length : Int)) ∧ (0 ≤ j ∧ j ≤ (g.length : Int)) ∧ DjB g h l ∧ djC g h l i ∧ djA l i (h ++ g.take j.toNat)
theorem get_app {l m : List Op3} {k : Nat} (hk : k < l.length) : (l ++ m).getD k zerO = l.getD k zerO := by
  rw [List.getD_eq_getElem?_getD, List.getD_eq_getElem?_getD, List.getElem?_append_left hk]
section
variable {g h : List Op3} (hz : two g h = 0)
include hz
theorem jm_gen {x : Op3} (hx : x ∈ g ∨ x ∈ h) : Gen (joM g h) x := by
  obtain ⟨hg, hh⟩ := two_zero.1 hz
  exact Gen.mem (jm_frm hg hh) (jm_mem.2 hx)
theorem jo_gen (he : joE g h = 0) {x : Op3} (hx : Gen (joM g h) x) : x ∈ joL g h := by
  unfold joE at he
  unfold joL
  rw [if_pos hz] at he
  rw [if_pos hz]
  by_cases c : 192 < ((joM g h).length : Int)
  · rw [if_pos c] at he; cases he
  rw [if_neg c] at he
  rw [if_neg c]
  exact ((clo_isG he).mem x).2 hx
theorem dj_long {l : List Op3} {p : Op3} (hB : DjB g h l) (hp : Gen (joM g h) p) (hn : p ∉ l) (hl : (l.length : Int) = 192) : joL g h = [] ∧ joE g h = 5 := by
  refine (jo_no hz fun he => ?_).symm
  have hc := (jo_ok hz he).1
  have h1 := nodup_le (m := joL g h) (List.nodup_cons.2 ⟨hn, hB.nodup⟩) fun x hx => by
    rcases List.mem_cons.1 hx with rfl | hx
    · exact jo_gen hz he hp
    · exact jo_gen hz he (hB.gen x hx).1
  have h2 := chk_len hc
  rw [List.length_cons] at h1
  omega
theorem dj_big {p : Op3} (hp : Gen (joM g h) p) (hn : okM p.R = false) : joL g h = [] ∧ joE g h = 5 := by
  refine (jo_no hz fun he => ?_).symm
  have hc := (jo_ok hz he).1
  have := okM_of ((chk_grp hc).1 p (jo_gen hz he hp))
  rw [hn] at this; cases this
theorem dj_add {l : List Op3} {x y : Op3} (hB : DjB g h l) (hx : Gen (joM g h) x ∧ Frm x) (hy : Gen (joM g h) y ∧ Frm y) (hn : mulO x y ∉ l) (hl : ¬ (l.length : Int) = 192) (ho : okM (mulO x y).R = true) : DjB g h (lapp l [mulO x y]) := by
  refine ⟨fun o h1 => ?_, ?_, ?_, fun o h1 => List.mem_append.2 (.inl (hB.sub o h1))⟩
  · rcases List.mem_append.1 h1 with h1 | h1
    · exact hB.gen o h1
    · rw [List.mem_singleton.1 h1]
      exact ⟨Gen.comp hx.1 hy.1, Frm.mul hx.2 hy.2 (errM_ok.2 ho)⟩
  · show (l ++ [_]).Nodup
    rw [List.nodup_append]
    exact ⟨hB.nodup, by simp, fun a ha b hb e => hn (by rw [List.mem_singleton.1 hb] at e; rw [← e]; exact ha)⟩
  · show (l ++ [_]).length ≤ 192
    have := hB.len
    rw [List.length_append, List.length_singleton]; omega
omit hz in
theorem djC_app {l m : List Op3} {i : Int} (hi : i ≤ (l.length : Int)) (h1 : djC g h l i) : djC g h (lapp l m) i := fun k hk o ho => by
  have h2 := h1 k hk o ho
  show mulO ((l ++ m).getD k zerO) o ∈ l ++ m ∧ mulO o ((l ++ m).getD k zerO) ∈ l ++ m
  rw [get_app (by omega)]
  exact ⟨List.mem_append.2 (.inl h2.1), List.mem_append.2 (.inl h2.2)⟩
omit hz in
theorem djA_app {l m A : List Op3} {i : Int} (h0 : 0 ≤ i) (hi : i < (l.length : Int)) (h1 : djA l i A) : djA (lapp l m) i A := fun o ho => by
  have h2 := h1 o ho
  show mulO ((l ++ m).getD i.toNat zerO) o ∈ l ++ m ∧ mulO o ((l ++ m).getD i.toNat zerO) ∈ l ++ m
  rw [get_app (by omega)]
  exact ⟨List.mem_append.2 (.inl h2.1), List.mem_append.2 (.inl h2.2)⟩
omit hz in
theorem djA_snoc {l A : List Op3} {i : Int} {o : Op3} (h1 : djA l i A) (h2 : mulO (l.getD i.toNat zerO) o ∈ l) (h3 : mulO o (l.getD i.toNat zerO) ∈ l) : djA l i (A ++ [o]) := fun x hx => by
  rcases List.mem_append.1 hx with hx | hx
  · exact h1 x hx
  · rw [List.mem_singleton.1 hx]; exact ⟨h2, h3⟩
theorem dj_0 : djO g h (lapp [] g) 0 := by
  obtain ⟨hg, hh⟩ := two_zero.1 hz
  have hF := (chk_grp hg).1
  exact ⟨⟨Int.le_refl _, by omega⟩, ⟨fun o ho => ⟨jm_gen hz (.inl ho), hF o ho⟩, (chk_grp hg).2.1, chk_len hg, fun o ho => ho⟩, fun k hk => by omega⟩
omit hz in
theorem dj_in {l : List Op3} {i : Int} (hO : djO g h l i) (hi : i < (l.length : Int)) : djI g h h i l 0 := ⟨⟨hO.1.1, hi⟩, ⟨Int.le_refl _, by omega⟩, hO.2.1, hO.2.2, fun o ho => by simp at ho⟩
/-- One map's two products: what each way says. -/
theorem dj_way {l A : List Op3} {i : Int} {o : Op3} (i0 : 0 ≤ i) (hi : i < (l.length : Int)) (hB : DjB g h l) (hC : djC g h l i) (hA : djA l i A) (ho : o ∈ g ∨ o ∈ h) (R : List Op3 → Prop)
    (hR : ∀ l', (i < (l'.length : Int)) → DjB g h l' → djC g h l' i → djA l' i (A ++ [o]) → R l') :
    mulPre (l.getD i.toNat zerO) o ∧ mulPre o (l.getD i.toNat zerO) ∧
    (memO l (mulO (l.getD i.toNat zerO) o) = true →
      (memO l (mulO o (l.getD i.toNat zerO)) = true → R l) ∧
      (memO l (mulO o (l.getD i.toNat zerO)) = false →
        ((l.length : Int) = 192 → joL g h = [] ∧ joE g h = 5) ∧
        (¬ (l.length : Int) = 192 → (okM (mulO o (l.getD i.toNat zerO)).R = false → joL g h = [] ∧ joE g h = 5) ∧ (okM (mulO o (l.getD i.toNat zerO)).R = true → lfit 96 (lapp l [mulO o (l.getD i.toNat zerO)]) ∧ R (lapp l [mulO o (l.getD i.toNat zerO)]))))) ∧
    (memO l (mulO (l.getD i.toNat zerO) o) = false →
      ((l.length : Int) = 192 → joL g h = [] ∧ joE g h = 5) ∧
      (¬ (l.length : Int) = 192 → (okM (mulO (l.getD i.toNat zerO) o).R = false → joL g h = [] ∧ joE g h = 5) ∧
        (okM (mulO (l.getD i.toNat zerO) o).R = true → lfit 96 (lapp l [mulO (l.getD i.toNat zerO) o]) ∧
          (memO (lapp l [mulO (l.getD i.toNat zerO) o]) (mulO o (l.getD i.toNat zerO)) = true → R (lapp l [mulO (l.getD i.toNat zerO) o])) ∧
          (memO (lapp l [mulO (l.getD i.toNat zerO) o]) (mulO o (l.getD i.toNat zerO)) = false →
            (((lapp l [mulO (l.getD i.toNat zerO) o]).length : Int) = 192 → joL g h = [] ∧ joE g h = 5) ∧
            (¬ ((lapp l [mulO (l.getD i.toNat zerO) o]).length : Int) = 192 → (okM (mulO o (l.getD i.toNat zerO)).R = false → joL g h = [] ∧ joE g h = 5) ∧
              (okM (mulO o (l.getD i.toNat zerO)).R = true → lfit 96 (lapp (lapp l [mulO (l.getD i.toNat zerO) o]) [mulO o (l.getD i.toNat zerO)]) ∧ R (lapp (lapp l [mulO (l.getD i.toNat zerO) o]) [mulO o (l.getD i.toNat zerO)]))))))) := by
  obtain ⟨hg, hh⟩ := two_zero.1 hz
  have hoF : Frm o := ho.elim ((chk_grp hg).1 o) ((chk_grp hh).1 o)
  have hoG : Gen (joM g h) o ∧ Frm o := ⟨jm_gen hz ho, hoF⟩
  have hxG := hB.gen _ (getD_mem i0 hi zerO)
  have nm : ∀ {m : List Op3} {p : Op3}, memO m p = false → p ∉ m := fun {m p} e c => by rw [memO_iff.2 c] at e; cases e
  have fit : ∀ m : List Op3, m.length ≤ 192 → lfit 96 m := fun m hm => by show m.length * 96 ≤ 140737488355328; omega
  have lenA : ∀ (m : List Op3) (p : Op3), i < (m.length : Int) → i < ((lapp m [p]).length : Int) := fun m p hm => by
    show i < ((m ++ [p]).length : Int)
    rw [List.length_append]; omega
  have getA : ∀ (m : List Op3) (p : Op3), i < (m.length : Int) → (lapp m [p]).getD i.toNat zerO = m.getD i.toNat zerO := fun m p hm => get_app (by omega)
  refine ⟨frm_pre hxG.2 hoF, frm_pre hoF hxG.2, fun m1 => ⟨fun m2 => hR l hi hB hC (djA_snoc hA (memO_iff.1 m1) (memO_iff.1 m2)), fun m2 => ⟨fun hl => dj_long hz hB (Gen.comp hoG.1 hxG.1) (nm m2) hl, fun hl => ⟨fun hk => dj_big hz (Gen.comp hoG.1 hxG.1) hk, fun hk => ?_⟩⟩⟩, fun m1 => ⟨fun hl => dj_long hz hB (Gen.comp hxG.1 hoG.1) (nm m1) hl, fun hl => ⟨fun hk => dj_big hz (Gen.comp hxG.1 hoG.1) hk, fun hk => ?_⟩⟩⟩
  · have hB2 := dj_add hz hB hoG hxG (nm m2) hl hk
    refine ⟨fit _ hB2.len, hR _ (lenA _ _ hi) hB2 (djC_app (by omega) hC) (djA_snoc (djA_app i0 hi hA) ?_ ?_)⟩
    · rw [getA _ _ hi]; exact List.mem_append.2 (.inl (memO_iff.1 m1))
    · rw [getA _ _ hi]; exact List.mem_append.2 (.inr (List.mem_singleton.2 rfl))
  · have hB2 := dj_add hz hB hxG hoG (nm m1) hl hk
    have hi2 := lenA l (mulO (l.getD i.toNat zerO) o) hi
    have hC2 := djC_app (m := [mulO (l.getD i.toNat zerO) o]) (by omega) hC
    have hA2 := djA_app (m := [mulO (l.getD i.toNat zerO) o]) i0 hi hA
    refine ⟨fit _ hB2.len, fun m2 => hR _ hi2 hB2 hC2 (djA_snoc hA2 ?_ ?_), fun m2 => ⟨fun hl2 => dj_long hz hB2 (Gen.comp hoG.1 hxG.1) (nm m2) hl2, fun hl2 => ⟨fun hk2 => dj_big hz (Gen.comp hoG.1 hxG.1) hk2, fun hk2 => ?_⟩⟩⟩
    · rw [getA _ _ hi]; exact List.mem_append.2 (.inr (List.mem_singleton.2 rfl))
    · rw [getA _ _ hi]; exact memO_iff.1 m2
    · have hB3 := dj_add hz hB2 hoG hxG (nm m2) hl2 hk2
      refine ⟨fit _ hB3.len, hR _ (lenA _ _ hi2) hB3 (djC_app (by omega) hC2) (djA_snoc (djA_app i0 hi2 hA2) ?_ ?_)⟩
      · rw [getA _ _ hi2, getA _ _ hi]
        exact List.mem_append.2 (.inl (List.mem_append.2 (.inr (List.mem_singleton.2 rfl))))
      · rw [getA _ _ hi2, getA _ _ hi]
        exact List.mem_append.2 (.inr (List.mem_singleton.2 rfl))
omit hz in
theorem dj_mid {l : List Op3} {i j : Int} (hI : djI g h h i l j) (hj : ¬ j < (h.length : Int)) : djK g h i l 0 := by
  obtain ⟨h1, h2, h3, h4, h5⟩ := hI
  rw [take_end hj] at h5
  exact ⟨h1, ⟨Int.le_refl _, by omega⟩, h3, h4, by simpa using h5⟩
omit hz in
theorem dj_out {l : List Op3} {i j : Int} (hK : djK g h i l j) (hj : ¬ j < (g.length : Int)) :
    djO g h l (w64 (i + 1)) ∧ (decide (0 ≤ djM (w64 (i + 1))) = true ∧ decide (djM (w64 (i + 1)) < djM i) = true) := by
  obtain ⟨⟨i0, i1⟩, _, h3, h4, h5⟩ := hK
  have hl := h3.len
  have hw : w64 (i + 1) = i + 1 := w64_id (by omega) (by omega)
  rw [take_end hj] at h5
  rw [hw]
  refine ⟨⟨⟨by omega, by omega⟩, h3, fun k hk o ho => ?_⟩, decide_eq_true (by unfold djM; omega), decide_eq_true (by unfold djM; omega)⟩
  by_cases c : (k : Int) < i
  · exact h4 k c o ho
  · have : k = i.toNat := by omega
    subst this
    exact h5 o (List.mem_append.2 (ho.symm))
theorem dj_end {l : List Op3} {i : Int} (hO : djO g h l i) (hi : ¬ i < (l.length : Int)) : l.length ≤ 192 ∧ joL g h = insO l ∧ joE g h = 0 := by
  obtain ⟨hg, hh⟩ := two_zero.1 hz
  obtain ⟨_, hB, hC⟩ := hO
  have hone := hB.sub _ (chk_grp hg).2.2.1
  have hall : ∀ x, x ∈ l ↔ Gen (joM g h) x := fun x => ⟨fun hx => (hB.gen x hx).1, fun hx => by
    induction hx with
    | one => exact hone
    | mul ho _ ih =>
      obtain ⟨k, hk, e⟩ := List.mem_iff_getElem.1 ih
      have := (hC k (by omega) _ (jm_mem.1 ho)).2
      rwa [show l.getD k zerO = l[k] by simp [List.getD, hk], e] at this⟩
  have hnd : (joM g h).Nodup := by
    unfold joM
    rw [List.nodup_append]
    refine ⟨(chk_grp hg).2.1, (chk_grp hh).2.1.filter _, fun a ha b hb e => ?_⟩
    have := (List.mem_filter.1 hb).2
    rw [← e, memO_iff.2 ha] at this
    cases this
  have hlen := nodup_le hnd fun x hx => (hall x).2 (Gen.mem (jm_frm hg hh) hx)
  have hl := hB.len
  have hE : gE (joM g h) = 0 := gE_of (by omega) (jm_frm hg hh)
  have hp := insO_perm l
  have hI : IsG (joM g h) (insO l) := ⟨hp.nodup_iff.2 hB.nodup, by rw [hp.length_eq]; exact hl, fun o ho => (hB.gen o (hp.mem_iff.1 ho)).2, insO_ord l, fun x => hp.mem_iff.trans (hall x)⟩
  obtain ⟨e1, e2⟩ := isG_clo hI hE fun _ => Iff.rfl
  unfold joL joE
  rw [if_pos hz, if_pos hz, if_neg (by omega), if_neg (by omega)]
  exact ⟨hl, e1, e2⟩
end
end Go.Fx
