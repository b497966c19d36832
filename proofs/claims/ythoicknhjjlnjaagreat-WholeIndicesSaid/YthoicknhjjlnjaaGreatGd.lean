/-
  Layer 5 in Lean: the document's loops.
-/
import Derived.Test.YthoicknhjjlnjaaGreatGc
set_option linter.unusedSimpArgs false
set_option linter.unusedVariables false
set_option linter.unusedSectionVars false
namespace Go.Fx
open Go

/-! ### Comparing -/
theorem cmpE3 (x1 y1 x2 y2 x3 y3 k : Int) : cmpE x1 y1 (cmpE x2 y2 (cmpE x3 y3 k)) = if cmpE x1 y1 (cmpE x2 y2 (cmpE x3 y3 0)) = 0 then k else cmpE x1 y1 (cmpE x2 y2 (cmpE x3 y3 0)) := by
  unfold cmpE
  by_cases h1 : x1 < y1 <;> by_cases h2 : y1 < x1 <;> by_cases h3 : x2 < y2 <;> by_cases h4 : y2 < x2 <;> by_cases h5 : x3 < y3 <;> by_cases h6 : y3 < x3 <;> simp [h1, h2, h3, h4, h5, h6]
theorem cmpM_rows (a b : M3) : cmpM a b = if cmpV ⟨a.xx, a.xy, a.xz⟩ ⟨b.xx, b.xy, b.xz⟩ = 0 then (if cmpV ⟨a.yx, a.yy, a.yz⟩ ⟨b.yx, b.yy, b.yz⟩ = 0 then cmpV ⟨a.zx, a.zy, a.zz⟩ ⟨b.zx, b.zy, b.zz⟩ else cmpV ⟨a.yx, a.yy, a.yz⟩ ⟨b.yx, b.yy, b.yz⟩) else cmpV ⟨a.xx, a.xy, a.xz⟩ ⟨b.xx, b.xy, b.xz⟩ := by
  show cmpE a.xx b.xx (cmpE a.xy b.xy (cmpE a.xz b.xz (cmpE a.yx b.yx (cmpE a.yy b.yy (cmpE a.yz b.yz (cmpE a.zx b.zx (cmpE a.zy b.zy (cmpE a.zz b.zz 0)))))))) = _
  rw [cmpE3, cmpE3 a.yx]
  rfl
theorem cmpM_zero {a b : M3} : cmpM a b = 0 ↔ a = b := by
  constructor
  · intro h
    have : cmpO ⟨a, ⟨0, 0, 0⟩⟩ ⟨b, ⟨0, 0, 0⟩⟩ = 0 := by
      unfold cmpO
      rw [if_pos h]
      show cmpV ⟨0, 0, 0⟩ ⟨0, 0, 0⟩ = 0
      decide
    have := cmpO_zero.1 this
    exact congrArg Op3.R this
  · rintro rfl
    have h0 : cmpO ⟨a, ⟨0, 0, 0⟩⟩ ⟨a, ⟨0, 0, 0⟩⟩ = 0 := cmpO_zero.2 rfl
    unfold cmpO at h0
    by_cases h : cmpM a a = 0
    · exact h
    · rw [if_neg h] at h0; exact h0
theorem maps_o (o : Op3) : errO o = if inT o.T = true then (if okM o.R = true then (if w64 (detZ o.R) = 1 ∨ w64 (detZ o.R) = -1 then 0 else 3) else 4) else 3 := by
  unfold errO uniE errM
  by_cases h1 : inT o.T = true
  · rw [if_pos h1, if_pos h1]
    by_cases h2 : okM o.R = true
    · rw [if_pos h2, if_pos rfl, if_pos h2]
    · rw [if_neg h2, if_neg (by decide), if_neg h2]
  · rw [if_neg h1, if_neg h1]
theorem modT (t : V3) : ((decide (t.x = (modV 24 t).x)) && ((decide (t.y = (modV 24 t).y)) && ((decide (t.z = (modV 24 t).z)) && true))) = inT t := by
  rw [Bool.eq_iff_iff]
  simp only [Bool.and_eq_true, decide_eq_true_eq, Bool.and_true]
  constructor
  · rintro ⟨h1, h2, h3⟩
    have : t = modV 24 t := V3.ext' h1 h2 h3
    rw [this]; exact inT_mod t
  · intro h
    rw [modV_id h]
    exact ⟨rfl, rfl, rfl⟩
/-! ### A list more -/
def puInv (l : List Op3) (o : Op3) (i : Int) : Prop := 0 ≤ i ∧ i ≤ (l.length : Int) ∧ ∀ k, k < i.toNat → cmpO (l.getD k zerO) o < 0
theorem putO_at : ∀ {l : List Op3} {o : Op3} {n : Nat}, n ≤ l.length → (∀ k, k < n → cmpO (l.getD k zerO) o < 0) → (n < l.length → ¬ cmpO (l.getD n zerO) o < 0) → putO l o = l.take n ++ [o] ++ l.drop n
  | [], o, n, h, _, _ => by
    have : n = 0 := by simpa using h
    subst this; rfl
  | x :: r, o, 0, _, _, h2 => by
    have h := h2 (by simp)
    have h : ¬ cmpO x o < 0 := h
    unfold putO
    rw [if_neg h]; rfl
  | x :: r, o, n + 1, h, h1, h2 => by
    have hx : cmpO x o < 0 := h1 0 (by omega)
    unfold putO
    rw [if_pos hx, putO_at (n := n) (by simpa using h) (fun k hk => by simpa using h1 (k + 1) (by omega)) (fun hn => by simpa using h2 (by simpa using hn))]
    rfl
theorem pu_end {l : List Op3} {o : Op3} {i : Int} (h : puInv l o i) (h2 : i < (l.length : Int) → ¬ cmpO (l.getD i.toNat zerO) o < 0) : lapp (lapp (lapp [] (lsub l 0 i)) [o]) (lsub l i ((l.length : Int) - i)) = putO l o := by
  rw [putO_at (n := i.toNat) (by have := h.1; have := h.2.1; omega) h.2.2 (fun hn => h2 (by have := h.1; omega))]
  unfold lapp lsub
  rw [List.take_of_length_le (l := l.drop i.toNat) (by rw [List.length_drop]; omega)]
  simp
theorem pu_fit {l : List Op3} {o : Op3} {i : Int} (h : (l ++ [o]).length * 96 ≤ 140737488355328) (hI : puInv l o i) : lfit 96 (lapp [] (lsub l 0 i)) ∧ lfit 96 (lapp (lapp [] (lsub l 0 i)) [o]) ∧ lfit 96 (lapp (lapp (lapp [] (lsub l 0 i)) [o]) (lsub l i ((l.length : Int) - i))) := by
  have h0 := hI.1
  have h1 := hI.2.1
  rw [List.length_append] at h
  simp only [List.length_singleton] at h
  unfold lfit lapp lsub
  refine ⟨?_, ?_, ?_⟩ <;> simp only [List.nil_append, List.length_append, List.length_take, List.length_drop, List.length_singleton] <;> omega
theorem putO_len (l : List Op3) (o : Op3) : (putO l o).length = l.length + 1 := by rw [(putO_perm o l).length_eq]; rfl
/-! ### The document's closure -/
def frmL (l : List Op3) : Prop := errL l = 0 ∧ l.length ≤ 192
structure RcI (l a s : List Op3) : Prop where
  len : a.length ≤ 192
  srt : s = insO a
  frm : ∀ o ∈ a, Frm o
  ok : ∀ o ∈ l, Frm o
def rcInv (l a s : List Op3) (i : Int) : Prop := 0 ≤ i ∧ i ≤ (a.length : Int) ∧ RcI l a s ∧ cloR rtO l = outC rtO l (193 - i.toNat) i.toNat a
def rcIn (l : List Op3) (i : Int) (a s : List Op3) (j : Int) : Prop :=
  (0 ≤ i ∧ i < (a.length : Int)) ∧ (0 ≤ j ∧ j ≤ (l.length : Int)) ∧ RcI l a s ∧ cloR rtO l = (inn rtO (a.getD i.toNat zerO) (l.drop j.toNat) a).bind (outC rtO l (192 - i.toNat) (i.toNat + 1))
theorem rc_init {l : List Op3} (h : errL l = 0) : rcInv l [oneO] [oneO] 0 :=
  ⟨by omega, by simp, ⟨by simp, rfl, fun o ho => by rw [List.mem_singleton.1 ho]; exact oneO_frm, fun o ho => errO_ok.1 (errL_zero.1 h o ho)⟩, rfl⟩
theorem rci_init {l a s : List Op3} {i : Int} (h : rcInv l a s i) (hi : i < (a.length : Int)) : rcIn l i a s 0 := by
  obtain ⟨h0, h1, h2, h3⟩ := h
  have hl := h2.len
  refine ⟨⟨h0, hi⟩, ⟨by omega, by omega⟩, h2, ?_⟩
  rw [h3, show 193 - i.toNat = (192 - i.toNat) + 1 by omega]
  show (if i.toNat < a.length then _ else _) = _
  rw [if_pos (by omega)]
  rfl
theorem rc_end {l a s : List Op3} {i : Int} (h : rcInv l a s i) (hi : ¬ i < (a.length : Int)) : (s, (true, ())) = (rcS l, (rcB l, ())) := by
  obtain ⟨h0, h1, h2, h3⟩ := h
  have hl := h2.len
  have e : cloR rtO l = some a := by
    rw [h3, show 193 - i.toNat = (192 - i.toNat) + 1 by omega]
    show (if i.toNat < a.length then _ else _) = _
    rw [if_neg (by omega)]
  unfold rcS rcB
  rw [e, h2.srt]
  rfl
theorem rci_end {l a s : List Op3} {i j : Int} (h : rcIn l i a s j) (hj : ¬ j < (l.length : Int)) :
    rcInv l a s (w64 (i + 1)) ∧ (decide (0 ≤ coMu (w64 (i + 1))) = true ∧ decide (coMu (w64 (i + 1)) < coMu i) = true) := by
  obtain ⟨⟨h0, h1⟩, ⟨h2, h3⟩, h4, h5⟩ := h
  have hl := h4.len
  have e : w64 (i + 1) = i + 1 := w64_id (by omega) (by omega)
  rw [e]
  refine ⟨⟨by omega, by omega, h4, ?_⟩, decide_eq_true (by unfold coMu; omega), decide_eq_true (by unfold coMu; omega)⟩
  rw [h5, List.drop_of_length_le (by omega), show 193 - (i + 1).toNat = 192 - i.toNat by omega, show (i + 1).toNat = i.toNat + 1 by omega]
  rfl
theorem rci_frm {l a s : List Op3} {i j : Int} (h : rcIn l i a s j) (hj : j < (l.length : Int)) : Frm (a.getD i.toNat zerO) ∧ Frm (l.getD j.toNat zerO) :=
  ⟨h.2.2.1.frm _ (getD_mem h.1.1 h.1.2 _), h.2.2.1.ok _ (getD_mem h.2.1.1 hj _)⟩
theorem rci_step {l a s b t : List Op3} {i j : Int} (hb : l.length * 96 ≤ room) (h : rcIn l i a s j) (hj : j < (l.length : Int)) (hI : RcI l b t) (hi : i < (b.length : Int)) (hx : b.getD i.toNat zerO = a.getD i.toNat zerO)
    (hn : inn rtO (a.getD i.toNat zerO) (l.drop j.toNat) a = inn rtO (a.getD i.toNat zerO) (l.drop (j + 1).toNat) b) : rcIn l i b t (w64 (j + 1)) ∧ (decide (0 ≤ opMu l (w64 (j + 1))) = true ∧ decide (opMu l (w64 (j + 1)) < opMu l j) = true) := by
  obtain ⟨⟨h0, h1⟩, ⟨h2, h3⟩, h4, h5⟩ := h
  obtain ⟨e1, e2, e3⟩ := opMu_next hb h2 hj
  refine ⟨?_, e2, e3⟩
  rw [e1]
  refine ⟨⟨h0, hi⟩, ⟨by omega, by omega⟩, hI, ?_⟩
  rw [h5, hn, hx]
theorem rci_hit {l a s : List Op3} {i j : Int} (hb : l.length * 96 ≤ room) (h : rcIn l i a s j) (hj : j < (l.length : Int)) (hm : mulO (a.getD i.toNat zerO) (l.getD j.toNat zerO) ∈ a) :
    rcIn l i a s (w64 (j + 1)) ∧ (decide (0 ≤ opMu l (w64 (j + 1))) = true ∧ decide (opMu l (w64 (j + 1)) < opMu l j) = true) := by
  refine rci_step hb h hj h.2.2.1 h.1.2 rfl ?_
  rw [drop_at h.2.1.1 hj]
  show (if memO a (mulO (a.getD i.toNat zerO) (l.getD j.toNat zerO)) = true then _ else _) = _
  rw [if_pos (memO_iff.2 hm)]
theorem rci_none {l a s : List Op3} {i j : Int} (h : rcIn l i a s j) (hj : j < (l.length : Int)) (hm : mulO (a.getD i.toNat zerO) (l.getD j.toNat zerO) ∉ a) (hc : ¬ (okM (mulO (a.getD i.toNat zerO) (l.getD j.toNat zerO)).R = true ∧ a.length ≠ 192)) :
    (([] : List Op3), (false, ())) = (rcS l, (rcB l, ())) := by
  have e : cloR rtO l = none := by
    rw [h.2.2.2, drop_at h.2.1.1 hj]
    show ((if memO a (mulO (a.getD i.toNat zerO) (l.getD j.toNat zerO)) = true then _ else if okM (mulO (a.getD i.toNat zerO) (l.getD j.toNat zerO)).R = true ∧ a.length ≠ 192 then _ else none).bind _) = none
    rw [if_neg fun e => hm (memO_iff.1 e), if_neg hc]
    rfl
  unfold rcS rcB
  rw [e]
  rfl
theorem rci_add {l a s : List Op3} {i j : Int} (hb : l.length * 96 ≤ room) (h : rcIn l i a s j) (hj : j < (l.length : Int)) (hm : mulO (a.getD i.toNat zerO) (l.getD j.toNat zerO) ∉ a) (h3 : okM (mulO (a.getD i.toNat zerO) (l.getD j.toNat zerO)).R = true) (h4 : ¬ (a.length : Int) = 192) :
    rcIn l i (lapp a [mulO (a.getD i.toNat zerO) (l.getD j.toNat zerO)]) (putO s (mulO (a.getD i.toNat zerO) (l.getD j.toNat zerO))) (w64 (j + 1)) ∧ (decide (0 ≤ opMu l (w64 (j + 1))) = true ∧ decide (opMu l (w64 (j + 1)) < opMu l j) = true) := by
  obtain ⟨f1, f2⟩ := rci_frm h hj
  have hlen := h.2.2.1.len
  have hi := h.1.2
  have hit : i.toNat < a.length := by have := h.1.1; omega
  refine rci_step hb h hj ⟨?_, ?_, fun o ho => ?_, h.2.2.1.ok⟩ ?_ ?_ ?_
  · show (a ++ [_]).length ≤ 192
    rw [List.length_append]; simp; omega
  · show _ = insO (a ++ [_])
    rw [insO_snoc, ← h.2.2.1.srt]
  · rcases List.mem_append.1 ho with ho | ho
    · exact h.2.2.1.frm o ho
    · rw [List.mem_singleton.1 ho]; exact Frm.mul f1 f2 (errM_ok.2 h3)
  · show i < ((a ++ [_]).length : Int)
    rw [List.length_append]; simp; omega
  · show (a ++ [_]).getD i.toNat zerO = _
    simp only [List.getD_eq_getElem?_getD]
    rw [List.getElem?_append_left hit]
  · rw [drop_at h.2.1.1 hj]
    show (if memO a (mulO (a.getD i.toNat zerO) (l.getD j.toNat zerO)) = true then _ else if okM (mulO (a.getD i.toNat zerO) (l.getD j.toNat zerO)).R = true ∧ a.length ≠ 192 then _ else none) = _
    rw [if_neg fun e => hm (memO_iff.1 e), if_pos ⟨h3, by omega⟩]
    rfl
theorem frm_pre {a b : Op3} (ha : Frm a) (hb : Frm b) : mulPre a b := sml_pre (frm_sml ha) (frm_sml hb)
/-! ### Lists alike -/
def smO (a b : List Op3) : Bool := decide (a = b)
def smI (a b : List Int) : Bool := decide (a = b)
def smP {α : Type} (a b : List α) (i : Int) : Prop := a.length = b.length ∧ 0 ≤ i ∧ i ≤ (a.length : Int) ∧ ∀ k, k < i.toNat → a[k]? = b[k]?
def smInv (a b : List Op3) (i : Int) : Prop := smP a b i
def smIn (a b : List Int) (i : Int) : Prop := smP a b i
theorem sm_next {α : Type} {a b : List α} {i : Int} (h : smP a b i) (hi : i < (a.length : Int)) {d : α} (he : a.getD i.toNat d = b.getD i.toNat d) : smP a b (i + 1) := by
  obtain ⟨h0, h1, h2, h3⟩ := h
  refine ⟨h0, by omega, by omega, fun k hk => ?_⟩
  rcases Nat.lt_or_ge k i.toNat with h4 | h4
  · exact h3 k h4
  · have : k = i.toNat := by omega
    subst this
    have ha : i.toNat < a.length := by omega
    have hb : i.toNat < b.length := by omega
    simp only [List.getD_eq_getElem?_getD, List.getElem?_eq_getElem ha, List.getElem?_eq_getElem hb, Option.getD_some] at he ⊢
    rw [he]
theorem sm_end {α : Type} {a b : List α} {i : Int} (h : smP a b i) (hi : ¬ i < (a.length : Int)) : a = b := by
  obtain ⟨h0, h1, h2, h3⟩ := h
  refine List.ext_getElem? fun k => ?_
  rcases Nat.lt_or_ge k a.length with h4 | h4
  · exact h3 k (by omega)
  · rw [List.getElem?_eq_none h4, List.getElem?_eq_none (by omega)]
theorem sm_ne {α : Type} {a b : List α} {i : Nat} {d : α} (h : ¬ a.getD i d = b.getD i d) : a ≠ b := fun e => h (by rw [e])
/-! ### The document's table -/
def drIn (g : List Op3) (a : Op3) (r : List Int) (j : Int) : Prop := 0 ≤ j ∧ j ≤ (g.length : Int) ∧ r = (rowO g a).take j.toNat
theorem dr_in {g : List Op3} {a : Op3} {r : List Int} {j : Int} (hb : g.length * 96 ≤ room) (hR : drIn g a r j) (hj : j < (g.length : Int)) :
    drIn g a (lapp r [idxO g (mulO a (g.getD j.toNat zerO))]) (w64 (j + 1)) ∧ (decide (0 ≤ opMu g (w64 (j + 1))) = true ∧ decide (opMu g (w64 (j + 1)) < opMu g j) = true) := by
  have j0 := hR.1
  obtain ⟨e1, e2, e3⟩ := opMu_next hb j0 hj
  refine ⟨?_, e2, e3⟩
  rw [e1]
  refine ⟨by omega, by omega, ?_⟩
  rw [take_succ j0 (by rw [rowO_len]; exact hj) 0, rowO_get j0 hj, ← hR.2.2]
  rfl
theorem dr_out {g : List Op3} {t : List (List Int)} {r : List Int} {i j : Int} (hb : g.length * 96 ≤ room) (hI : tbInv g t i) (hi : i < (g.length : Int)) (hR : drIn g (g.getD i.toNat zerO) r j) (hj : ¬ j < (g.length : Int)) :
    tbInv g (lapp t [r]) (w64 (i + 1)) ∧ (decide (0 ≤ opMu g (w64 (i + 1))) = true ∧ decide (opMu g (w64 (i + 1)) < opMu g i) = true) := by
  have i0 := hI.1
  obtain ⟨e1, e2, e3⟩ := opMu_next hb i0 hi
  refine ⟨?_, e2, e3⟩
  rw [e1]
  refine ⟨by omega, by omega, ?_⟩
  have h := hR.2.2
  rw [List.take_of_length_le (by rw [rowO_len]; omega)] at h
  rw [take_succ i0 hi zerO, List.map_append, ← hI.2.2, h]
  rfl
/-! ### What undoes each, by the document -/
def dinR (g : List Op3) (a : Op3) (n : Nat) : List Int := ((List.range n).filter fun k => eqO (mulO a (g.getD k zerO)) oneO).map fun k : Nat => (k : Int)
def diL (g : List Op3) : List Int := if chkE g = 0 then g.flatMap fun a => dinR g a g.length else []
def diInv (g : List Op3) (l : List Int) (i : Int) : Prop := 0 ≤ i ∧ i ≤ (g.length : Int) ∧ l = (g.take i.toNat).flatMap fun a => dinR g a g.length
def diIn (g : List Op3) (i : Int) (a : Op3) (l : List Int) (j : Int) : Prop := 0 ≤ j ∧ j ≤ (g.length : Int) ∧ l = ((g.take i.toNat).flatMap fun a => dinR g a g.length) ++ dinR g a j.toNat
theorem dinR_len (g : List Op3) (a : Op3) (n : Nat) : (dinR g a n).length ≤ n := by
  unfold dinR
  rw [List.length_map]
  exact Nat.le_trans (List.length_filter_le _ _) (by simp)
theorem din_flat (g : List Op3) (n : Nat) : ∀ l : List Op3, (∀ a, (dinR g a n).length ≤ n) → (l.flatMap fun a => dinR g a n).length ≤ l.length * n
  | [], _ => by simp
  | x :: r, h => by
    have h1 := din_flat g n r h
    have h2 := h x
    rw [List.flatMap_cons, List.length_append, List.length_cons, Nat.succ_mul]; omega
theorem dinR_snoc (g : List Op3) (a : Op3) (n : Nat) : dinR g a (n + 1) = if mulO a (g.getD n zerO) = oneO then dinR g a n ++ [(n : Int)] else dinR g a n := by
  unfold dinR
  rw [List.range_succ, List.filter_append, List.map_append]
  by_cases h : mulO a (g.getD n zerO) = oneO
  · rw [if_pos h, List.filter_cons_of_pos (p := fun k => eqO (mulO a (g.getD k zerO)) oneO) (a := n) (eqO_iff.2 h)]; rfl
  · rw [if_neg h, List.filter_cons_of_neg (p := fun k => eqO (mulO a (g.getD k zerO)) oneO) (a := n) fun e => h (eqO_iff.1 e)]
    simp
/-! ### The document's matrices -/
def rrQ (g : List Op3) (l : List M3) (i : Int) : Prop := 0 < i → l.length ≠ 0 ∧ l.getD (l.length - 1) zerO.R = (g.getD (i - 1).toNat zerO).R
def rrInv (g : List Op3) (l : List M3) (i : Int) : Prop := 0 ≤ i ∧ i ≤ (g.length : Int) ∧ l = rotF (g.take i.toNat) ∧ rrQ g l i
def rrL (g : List Op3) : List M3 := rotF g
theorem rr_last (l : List M3) (o : Op3) : (rotS l o).length ≠ 0 ∧ (rotS l o).getD ((rotS l o).length - 1) zerO.R = o.R := by
  unfold rotS
  by_cases h : l.length = 0 ∨ cmpM (l.getD (l.length - 1) zerO.R) o.R ≠ 0
  · rw [if_pos h]; simp
  · rw [if_neg h]
    have h1 : ¬ l.length = 0 := fun e => h (.inl e)
    have h2 : cmpM (l.getD (l.length - 1) zerO.R) o.R = 0 := Classical.byContradiction fun e => h (.inr e)
    exact ⟨h1, cmpM_zero.1 h2⟩
theorem rr_next {g : List Op3} {l : List M3} {i : Int} (hb : g.length * 96 ≤ room) (hI : rrInv g l i) (hi : i < (g.length : Int)) {l' : List M3} (h : l' = rotS l (g.getD i.toNat zerO)) :
    rrInv g l' (w64 (i + 1)) ∧ (decide (0 ≤ opMu g (w64 (i + 1))) = true ∧ decide (opMu g (w64 (i + 1)) < opMu g i) = true) := by
  have i0 := hI.1
  obtain ⟨e1, e2, e3⟩ := opMu_next hb i0 hi
  refine ⟨?_, e2, e3⟩
  rw [e1]
  refine ⟨by omega, by omega, by rw [take_succ i0 hi zerO, rotF_snoc, ← hI.2.2.1]; exact h, fun _ => ?_⟩
  have := rr_last l (g.getD i.toNat zerO)
  rw [h, show i + 1 - 1 = i by omega]
  exact this
/-! ### Undone -/
theorem grp_right {g : List Op3} (h : chkE g = 0) {a : Op3} (ha : a ∈ g) : ∃ b ∈ g, mulO a b = oneO := by
  obtain ⟨hF, hnd, hone, hcl⟩ := chk_grp h
  have hinj : ∀ b ∈ g, ∀ c ∈ g, mulO a b = mulO a c → b = c := fun b hb c hc e => by
    have h1 := (inv_mul (hF a ha)).2
    have h2 : mulO (invO a) (mulO a b) = mulO (invO a) (mulO a c) := by rw [e]
    rw [← mulO_assoc, ← mulO_assoc, h1, (mulO_one (hF b hb).T).2, (mulO_one (hF c hc).T).2] at h2
    exact h2
  by_cases hex : oneO ∈ g.map (mulO a)
  · obtain ⟨b, hb, e⟩ := List.mem_map.1 hex
    exact ⟨b, hb, e⟩
  · exfalso
    have hn : (g.map (mulO a)).Nodup := by
      rw [List.nodup_iff_pairwise_ne, List.pairwise_map]
      rw [List.nodup_iff_pairwise_ne] at hnd
      exact List.Pairwise.imp_of_mem (fun {x y} hx hy hne e => hne (hinj x hx y hy e)) hnd
    have := nodup_le (m := g.erase oneO) hn fun x hx => by
      obtain ⟨b, hb, rfl⟩ := List.mem_map.1 hx
      exact (List.mem_erase_of_ne fun e => hex (by rw [← e]; exact hx)).2 (hcl a ha b hb)
    rw [List.length_map, List.length_erase_of_mem hone] at this
    have hpos := List.length_pos_of_mem hone
    omega
theorem undo_one {g : List Op3} (h : chkE g = 0) {a b c : Op3} (ha : a ∈ g) (hb : b ∈ g) (hc : c ∈ g) (h1 : mulO a b = oneO) (h2 : mulO a c = oneO) : b = c := by
  obtain ⟨hF, _, _, _⟩ := chk_grp h
  have e := (inv_mul (hF a ha)).2
  have h3 : mulO (invO a) (mulO a b) = mulO (invO a) (mulO a c) := by rw [h1, h2]
  rw [← mulO_assoc, ← mulO_assoc, e, (mulO_one (hF b hb).T).2, (mulO_one (hF c hc).T).2] at h3
  exact h3
theorem filter_one {p : Nat → Bool} {k : Nat} : ∀ {n : Nat}, k < n → p k = true → (∀ i, i < n → p i = true → i = k) → (List.range n).filter p = [k]
  | 0, h, _, _ => by omega
  | n + 1, h, hp, hu => by
    rw [List.range_succ, List.filter_append]
    by_cases e : k = n
    · subst e
      have : (List.range k).filter p = [] := by
        rw [List.filter_eq_nil_iff]
        intro i hi hpi
        have := List.mem_range.1 hi
        have := hu i (by omega) hpi
        omega
      rw [this]
      simp [hp]
    · rw [filter_one (n := n) (by omega) hp fun i hi => hu i (by omega)]
      have : ¬ p n = true := fun e' => e (hu n (by omega) e').symm
      simp [this]
theorem idxO_inj {g : List Op3} {x y : Op3} (hx : x ∈ g) (hy : y ∈ g) (h : idxO g x = idxO g y) : x = y := by
  have h1 := (idxD_mem hx).2.2
  have h2 := (idxD_mem hy).2.2
  have h : idxD g x = idxD g y := h
  rw [h, h2] at h1
  exact (Option.some.inj h1).symm
theorem din_inv {g : List Op3} (h : chkE g = 0) {a : Op3} (ha : a ∈ g) : dinR g a g.length = [idxI (rowO g a) (idxO g oneO)] := by
  obtain ⟨hF, hnd, hone, hcl⟩ := chk_grp h
  obtain ⟨b, hb, e⟩ := grp_right h ha
  obtain ⟨k, hk⟩ := List.getElem?_of_mem hb
  have hkl := (List.getElem?_eq_some_iff.1 hk).1
  have hget : ∀ i, i < g.length → g.getD i zerO ∈ g := fun i hi => by simp [List.getD, hi]
  have hgk : g.getD k zerO = b := by rw [List.getD_eq_getElem?_getD, hk]; rfl
  have hu : ∀ i, i < g.length → mulO a (g.getD i zerO) = oneO → i = k := fun i hi hm => by
    have := undo_one h ha (hget i hi) hb hm e
    have h1 : g[i] = g[k] := by
      have h2 : g.getD i zerO = g.getD k zerO := by rw [hgk]; exact this
      simpa [List.getD, hi, hkl] using h2
    exact nodup_inj hnd hi hkl h1
  have h1 : dinR g a g.length = [(k : Int)] := by
    unfold dinR
    rw [filter_one hkl (eqO_iff.2 (by rw [hgk]; exact e)) fun i hi hp => hu i hi (eqO_iff.1 hp)]
    rfl
  rw [h1]
  congr 1
  have h2 : (rowO g a)[k]? = some (idxO g oneO) := by
    unfold rowO
    rw [List.getElem?_map, hk, Option.map_some, e]
  refine (idxD_at h2 fun i hi hr => ?_).symm
  unfold rowO at hr
  have hil : i < g.length := by omega
  rw [List.getElem?_map, List.getElem?_eq_getElem hil, Option.map_some] at hr
  have h3 := idxO_inj (hcl a ha _ (List.getElem_mem hil)) hone (Option.some.inj hr)
  have := hu i hil (by simpa [List.getD, hil] using h3)
  omega
theorem inv_doc (g : List Op3) : invL g = diL g := by
  unfold invL diL
  by_cases h : chkE g = 0
  · rw [if_pos h, if_pos h]
    have : ∀ l : List Op3, (∀ a ∈ l, a ∈ g) → l.map (fun a => idxI (rowO g a) (idxO g oneO)) = l.flatMap fun a => dinR g a g.length := fun l => by
      induction l with
      | nil => intro _; rfl
      | cons x r ih =>
        intro hl
        rw [List.map_cons, List.flatMap_cons, ih fun a ha => hl a (List.mem_cons_of_mem _ ha), din_inv h (hl x (List.mem_cons_self ..))]
        rfl
    exact this g fun a ha => ha
  · rw [if_neg h, if_neg h]
end Go.Fx
