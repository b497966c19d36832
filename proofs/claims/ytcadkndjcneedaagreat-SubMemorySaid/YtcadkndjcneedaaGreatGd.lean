/-
  Layer 5 in Lean: the document's loops.
-/
import Derived.Test.YtcadkndjcneedaaGreatGc
set_option linter.unusedSimpArgs false
set_option linter.unusedVariables false
set_option linter.unusedSectionVars false
namespace Go.Fx
open Go

/-! ### Comparing -/
theorem cmpE3 (x1 y1 x2 y2 x3 y3 k : Int) : cmpE x1 y1 (cmpE x2 y2 (cmpE x3 y3 k)) = if cmpE x1 y1 (cmpE x2 y2 (cmpE x3 y3 0)) = 0 then k else cmpE x1 y1 (cmpE x2 y2 (cmpE x3 y3 0)) := by
  unfold cmpE
  by_cases h1 : x1 < y1 <;> by_cases h2 : y1 < x1 <;> by_cases h3 : x2 < y2 <;> by_cases h4 : y2 < x2 <;> by_cases h5 : x3 < y3 <;> by_cases h6 : y3 < x3 <;> simp [h1, h2, h3, h4, h5, h6]
theorem cmpM_rows (a b : M3) : cmpM a b = if cmpV ⟨a.xx, a.xy, a.xz⟩ ⟨b.xx, b.xy, b.xz⟩ = 0 then (if cmpV ⟨a.yx, a.yy, a.yz⟩ ⟨b.yx, b.yy, b.yz⟩ = 0 then cmpV ⟨a.zx, a.zy, a.zz⟩ ⟨b.zx, b.zy, b.zz⟩ else cmpV ⟨a.yx, a.yy, a.yz⟩ ⟨b.yx, b.yy, b.yz⟩) else cmpV ⟨a.xx, a.xy, a.xz⟩ ⟨b.xx, b.xy, b.xz⟩ := by
  show cmpE a.xx b.xx (cmpE a.xy b.xy (cmpE a.xz b.xz (cmpE a.yx b.yx (cmpE a.yy b.yy (cmpE a.yz b.yz (cmpE a.zx b.zx (cmpE a.zy b.zy (cmpE a.zz b.zz 0)))))))) = _
  rw [cmpE3, cmpE3 a.yx]
  rfl
theorem maps_o (o : Op3) : errO o = if inT o.T = true then (if okM o.R = true then (if w64 (detZ o.R) = 1 ∨ w64 (detZ o.R) = -1 then 0 else 3) else 4) else 3 := by
  unfold errO uniE errM
  by_cases h1 : inT o.T = true
  · rw [if_pos h1, if_pos h1]
    by_cases h2 : okM o.R = true
    · rw [if_pos h2, if_pos rfl, if_pos h2]
    · rw [if_neg h2, if_neg (by decide), if_neg h2]
  · rw [if_neg h1, if_neg h1]
theorem modT (t : V3) : ((decide (t.x = (modV 24 t).x)) && ((decide (t.y = (modV 24 t).y)) && ((decide (t.z = (modV 24 t).z)) && true))) = inT t := by
  rw [Bool.eq_iff_iff]
  simp only [Bool.and_eq_true, decide_eq_true_eq, Bool.and_true]
  constructor
  · rintro ⟨h1, h2, h3⟩
    have : t = modV 24 t := V3.ext' h1 h2 h3
    rw [this]; exact inT_mod t
  · intro h
    rw [modV_id h]
    exact ⟨rfl, rfl, rfl⟩
/-! ### A list more -/
def puInv (l : List Op3) (o : Op3) (i : Int) : Prop := 0 ≤ i ∧ i ≤ (l.length : Int) ∧ ∀ k, k < i.toNat → cmpO (l.getD k zerO) o < 0
theorem putO_at : ∀ {l : List Op3} {o : Op3} {n : Nat}, n ≤ l.length → (∀ k, k < n → cmpO (l.getD k zerO) o < 0) → (n < l.length → ¬ cmpO (l.getD n zerO) o < 0) → putO l o = l.take n ++ [o] ++ l.drop n
  | [], o, n, h, _, _ => by
    have : n = 0 := by simpa using h
    subst this; rfl
  | x :: r, o, 0, _, _, h2 => by
    have h := h2 (by simp)
    have h : ¬ cmpO x o < 0 := h
    unfold putO
    rw [if_neg h]; rfl
  | x :: r, o, n + 1, h, h1, h2 => by
    have hx : cmpO x o < 0 := h1 0 (by omega)
    unfold putO
    rw [if_pos hx, putO_at (n := n) (by simpa using h) (fun k hk => by simpa using h1 (k + 1) (by omega)) (fun hn => by simpa using h2 (by simpa using hn))]
    rfl
theorem pu_end {l : List Op3} {o : Op3} {i : Int} (h : puInv l o i) (h2 : i < (l.length : Int) → ¬ cmpO (l.getD i.toNat zerO) o < 0) : lapp (lapp (lapp [] (lsub l 0 i)) [o]) (lsub l i ((l.length : Int) - i)) = putO l o := by
  rw [putO_at (n := i.toNat) (by have := h.1; have := h.2.1; omega) h.2.2 (fun hn => h2 (by have := h.1; omega))]
  unfold lapp lsub
  rw [List.take_of_length_le (l := l.drop i.toNat) (by rw [List.length_drop]; omega)]
  simp
theorem pu_fit {l : List Op3} {o : Op3} {i : Int} (h : (l ++ [o]).length * 96 ≤ 140737488355328) (hI : puInv l o i) : lfit 96 (lapp [] (lsub l 0 i)) ∧ lfit 96 (lapp (lapp [] (lsub l 0 i)) [o]) ∧ lfit 96 (lapp (lapp (lapp [] (lsub l 0 i)) [o]) (lsub l i ((l.length : Int) - i))) := by
  have h0 := hI.1
  have h1 := hI.2.1
  rw [List.length_append] at h
  simp only [List.length_singleton] at h
  unfold lfit lapp lsub
  refine ⟨?_, ?_, ?_⟩ <;> simp only [List.nil_append, List.length_append, List.length_take, List.length_drop, List.length_singleton] <;> omega
/-! ### The document's closure -/
def frmL (l : List Op3) : Prop := errL l = 0 ∧ l.length ≤ 192
structure RcI (l a s : List Op3) : Prop where
  len : a.length ≤ 192
  srt : s = insO a
  frm : ∀ o ∈ a, Frm o
  ok : ∀ o ∈ l, Frm o
def rcInv (l a s : List Op3) (i : Int) : Prop := 0 ≤ i ∧ i ≤ (a.length : Int) ∧ RcI l a s ∧ cloR rtO l = outC rtO l (193 - i.toNat) i.toNat a
def rcIn (l : List Op3) (i : Int) (a s : List Op3) (j : Int) : Prop :=
  (0 ≤ i ∧ i < (a.length : Int)) ∧ (0 ≤ j ∧ j ≤ (l.length : Int)) ∧ RcI l a s ∧ cloR rtO l = (inn rtO (a.getD i.toNat zerO) (l.drop j.toNat) a).bind (outC rtO l (192 - i.toNat) (i.toNat + 1))
theorem frm_pre {a b : Op3} (ha : Frm a) (hb : Frm b) : mulPre a b := sml_pre (frm_sml ha) (frm_sml hb)
/-! ### Lists alike -/
def smO (a b : List Op3) : Bool := decide (a = b)
def smI (a b : List Int) : Bool := decide (a = b)
def smP {α : Type} (a b : List α) (i : Int) : Prop := a.length = b.length ∧ 0 ≤ i ∧ i ≤ (a.length : Int) ∧ ∀ k, k < i.toNat → a[k]? = b[k]?
def smInv (a b : List Op3) (i : Int) : Prop := smP a b i
def smIn (a b : List Int) (i : Int) : Prop := smP a b i
theorem sm_next {α : Type} {a b : List α} {i : Int} (h : smP a b i) (hi : i < (a.length : Int)) {d : α} (he : a.getD i.toNat d = b.getD i.toNat d) : smP a b (i + 1) := by
  obtain ⟨h0, h1, h2, h3⟩ := h
  refine ⟨h0, by omega, by omega, fun k hk => ?_⟩
  rcases Nat.lt_or_ge k i.toNat with h4 | h4
  · exact h3 k h4
  · have : k = i.toNat := by omega
    subst this
    have ha : i.toNat < a.length := by omega
    have hb : i.toNat < b.length := by omega
    simp only [List.getD_eq_getElem?_getD, List.getElem?_eq_getElem ha, List.getElem?_eq_getElem hb, Option.getD_some] at he ⊢
    rw [he]
theorem sm_end {α : Type} {a b : List α} {i : Int} (h : smP a b i) (hi : ¬ i < (a.length : Int)) : a = b := by
  obtain ⟨h0, h1, h2, h3⟩ := h
  refine List.ext_getElem? fun k => ?_
  rcases Nat.lt_or_ge k a.length with h4 | h4
  · exact h3 k (by omega)
  · rw [List.getElem?_eq_none h4, List.getElem?_eq_none (by omega)]
theorem sm_ne {α : Type} {a b : List α} {i : Nat} {d : α} (h : ¬ a.getD i d = b.getD i d) : a ≠ b := fun e => h (by rw [e])
/-! ### The document's table -/
def drIn (g : List Op3) (a : Op3) (r : List Int) (j : Int) : Prop := 0 ≤ j ∧ j ≤ (g.length : Int) ∧ r = (rowO g a).take j.toNat
/-! ### What undoes each, by the document -/
def dinR (g : List Op3) (a : Op3) (n : Nat) : List Int := ((List.range n).filter fun k => eqO (mulO a (g.getD k zerO)) oneO).map fun k : Nat => (k : Int)
def diL (g : List Op3) : List Int := if chkE g = 0 then g.flatMap fun a => dinR g a g.length else []
def diInv (g : List Op3) (l : List Int) (i : Int) : Prop := 0 ≤ i ∧ i ≤ (g.length : Int) ∧ l = (g.take i.toNat).flatMap fun a => dinR g a g.length
def diIn (g : List Op3) (i : Int) (a : Op3) (l : List Int) (j : Int) : Prop := 0 ≤ j ∧ j ≤ (g.length : Int) ∧ l = ((g.take i.toNat).flatMap fun a => dinR g a g.length) ++ dinR g a j.toNat
/-! ### The document's matrices -/
def rrQ (g : List Op3) (l : List M3) (i : Int) : Prop := 0 < i → l.length ≠ 0 ∧ l.getD (l.length - 1) zerO.R = (g.getD (i - 1).toNat zerO).R
def rrInv (g : List Op3) (l : List M3) (i : Int) : Prop := 0 ≤ i ∧ i ≤ (g.length : Int) ∧ l = rotF (g.take i.toNat) ∧ rrQ g l i
def rrL (g : List Op3) : List M3 := rotF g
/-! ### Undone -/
theorem grp_right {g : List Op3} (h : chkE g = 0) {a : Op3} (ha : a ∈ g) : ∃ b ∈ g, mulO a b = oneO := by
  obtain ⟨hF, hnd, hone, hcl⟩ := chk_grp h
  have hinj : ∀ b ∈ g, ∀ c ∈ g, mulO a b = mulO a c → b = c := fun b hb c hc e => by
    have h1 := (inv_mul (hF a ha)).2
    have h2 : mulO (invO a) (mulO a b) = mulO (invO a) (mulO a c) := by rw [e]
    rw [← mulO_assoc, ← mulO_assoc, h1, (mulO_one (hF b hb).T).2, (mulO_one (hF c hc).T).2] at h2
    exact h2
  by_cases hex : oneO ∈ g.map (mulO a)
  · obtain ⟨b, hb, e⟩ := List.mem_map.1 hex
    exact ⟨b, hb, e⟩
  · exfalso
    have hn : (g.map (mulO a)).Nodup := by
      rw [List.nodup_iff_pairwise_ne, List.pairwise_map]
      rw [List.nodup_iff_pairwise_ne] at hnd
      exact List.Pairwise.imp_of_mem (fun {x y} hx hy hne e => hne (hinj x hx y hy e)) hnd
    have := nodup_le (m := g.erase oneO) hn fun x hx => by
      obtain ⟨b, hb, rfl⟩ := List.mem_map.1 hx
      exact (List.mem_erase_of_ne fun e => hex (by rw [← e]; exact hx)).2 (hcl a ha b hb)
    rw [List.length_map, List.length_erase_of_mem hone] at this
    have hpos := List.length_pos_of_mem hone
    omega
theorem idxO_inj {g : List Op3} {x y : Op3} (hx : x ∈ g) (hy : y ∈ g) (h : idxO g x = idxO g y) : x = y := by
  have h1 := (idxD_mem hx).2.2
  have h2 := (idxD_mem hy).2.2
  have h : idxD g x = idxD g y := h
  rw [h, h2] at h1
  exact (Option.some.inj h1).symm
end Go.Fx
