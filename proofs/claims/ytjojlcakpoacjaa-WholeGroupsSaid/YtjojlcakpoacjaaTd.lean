/-
  WholeGroups in Lean: multiplying on and on.
-/
import Derived.Test.YtjojlcakpoacjaaTc
import Derived.Test.YtjojlcakpoacjaaGh
set_option linter.unusedSimpArgs false
set_option linter.unusedVariables false
set_option linter.unusedSectionVars false
namespace Go.Fx
open Go
theorem ndt {P : Prop} [Decidable P] (h : (!(decide P)) = true) : ¬ P := by simpa using h
theorem ndf {P : Prop} [Decidable P] (h : (!(decide P)) = false) : P := by simpa using h
def rcL (l : List Op3) : List Op3 := match cloR rtO l with | some a => a | none => []
theorem rc_cases (l : List Op3) : (rcB l = true ∧ rcS l = insO (rcL l)) ∨ (rcB l = false ∧ rcS l = [] ∧ rcL l = []) := by
  unfold rcB rcS rcL
  cases h : cloR rtO l with
  | none => exact .inr ⟨rfl, rfl, rfl⟩
  | some a => exact .inl ⟨rfl, rfl⟩
def tcInv (l a : List Op3) (i : Int) : Prop := rcInv l a (insO a) i
def tcIn (l : List Op3) (i : Int) (a : List Op3) (j : Int) : Prop := rcIn l i a (insO a) j
theorem tc_end {l a : List Op3} {i : Int} (h : tcInv l a i) (hi : ¬ i < (a.length : Int)) : (a, (true, ())) = (rcL l, (rcB l, ())) := by
  obtain ⟨h0, h1, h2, h3⟩ := h
  have hl := h2.len
  have e : cloR rtO l = some a := by
    rw [h3, show 193 - i.toNat = (192 - i.toNat) + 1 by omega]
    show (if i.toNat < a.length then _ else _) = _
    rw [if_neg (by omega)]
  unfold rcL rcB
  rw [e]
  rfl
theorem tci_none {l a : List Op3} {i j : Int} (h : tcIn l i a j) (hj : j < (l.length : Int)) (hm : mulO (a.getD i.toNat zerO) (l.getD j.toNat zerO) ∉ a) (hc : ¬ (okM (mulO (a.getD i.toNat zerO) (l.getD j.toNat zerO)).R = true ∧ a.length ≠ 192)) :
    (([] : List Op3), (false, ())) = (rcL l, (rcB l, ())) := by
  have h1 := rci_none h hj hm hc
  have hB : rcB l = false := (congrArg (fun x => x.2.1) h1).symm
  rcases rc_cases l with ⟨c, _⟩ | ⟨_, _, c⟩
  · rw [hB] at c; cases c
  · rw [c, hB]
def hgP (a : List Op3) (o : Op3) (b : Bool) (k : Int) : Prop := 0 ≤ k ∧ k ≤ (a.length : Int) ∧ b = decide (o ∈ a.take k.toNat)
theorem hg_init (a : List Op3) (o : Op3) : hgP a o false 0 := ⟨Int.le_refl _, by omega, by simp⟩
theorem hg_next {a : List Op3} {o : Op3} {b : Bool} {k : Int} (h : hgP a o b k) (hk : k < (a.length : Int)) : (a.getD k.toNat zerO = o → hgP a o true (k + 1)) ∧ (¬ a.getD k.toNat zerO = o → hgP a o b (k + 1)) := by
  obtain ⟨h1, h2, h3⟩ := h
  constructor <;> intro e <;> refine ⟨by omega, by omega, ?_⟩ <;> rw [take_succ h1 hk zerO]
  · exact (decide_eq_true (List.mem_append.2 (.inr (by rw [e]; exact List.mem_singleton.2 rfl)))).symm
  · rw [h3]
    congr 1
    rw [List.mem_append, List.mem_singleton]
    exact propext ⟨.inl, fun c => c.elim id fun c => absurd c.symm e⟩
theorem hg_end {a : List Op3} {o : Op3} {b : Bool} {k : Int} (h : hgP a o b k) (hk : ¬ k < (a.length : Int)) : b = decide (o ∈ a) := by rw [h.2.2, take_end hk]
def atP (g a : List Op3) (i t : Int) : Prop := idP g (a.getD i.toNat zerO) t
def ftP (g a : List Op3) (i t : Int) : Prop := t = idxO g (a.getD i.toNat zerO)
def snP (g : List Op3) (i : Int) (s : List Bool) (j : Int) : Prop := 0 ≤ j ∧ j ≤ (g.length : Int) ∧ s.length = g.length ∧ ∀ k : Nat, k < g.length → s.getD k false = decide ((k : Int) ∈ (rowO g (g.getD i.toNat zerO)).take j.toNat)
theorem sn_init (g : List Op3) (i : Int) : snP g i (lrep (g.length : Int) false) 0 := by
  refine ⟨Int.le_refl _, by omega, by simp [lrep], fun k hk => ?_⟩
  have : (lrep (g.length : Int) false).getD k false = false := by simp [lrep, List.getD, hk]
  rw [this]; simp
theorem sn_next {g : List Op3} {i : Int} {s : List Bool} {j : Int} (h : snP g i s j) (hj : j < (g.length : Int)) {x : Int} (hx : x = (rowO g (g.getD i.toNat zerO)).getD j.toNat 0) (x0 : 0 ≤ x) (x1 : x < (g.length : Int)) : snP g i (lset s x true) (j + 1) := by
  obtain ⟨h1, h2, h3, h4⟩ := h
  refine ⟨by omega, by omega, by rw [lset_len, h3], fun k hk => ?_⟩
  rw [take_succ h1 (by rw [rowO_len]; exact hj) (0 : Int), ← hx]
  unfold lset
  rw [List.getD_eq_getElem?_getD, List.getElem?_set]
  by_cases e : x.toNat = k
  · rw [if_pos e, if_pos (by omega)]
    have : (k : Int) = x := by omega
    rw [this]
    exact (decide_eq_true (List.mem_append.2 (.inr (List.mem_singleton.2 rfl)))).symm
  · rw [if_neg e, ← List.getD_eq_getElem?_getD, h4 k hk]
    congr 1
    rw [List.mem_append, List.mem_singleton]
    exact propext ⟨.inl, fun c => c.elim id fun c => absurd (by omega) e⟩
section
variable {g : List Op3} (hc : chkE g = 0)
include hc
theorem row_nodup {a : Op3} (ha : a ∈ g) : (rowO g a).Nodup := by
  obtain ⟨hF, hnd, hone, hcl⟩ := chk_grp hc
  exact nodup_map hnd fun x hx y hy e => mul_cancel hc ha hx hy (idxO_inj (hcl a ha x hx) (hcl a ha y hy) e)
theorem row_in {a : Op3} (ha : a ∈ g) {j : Int} (hj : inB g j) : inB g ((rowO g a).getD j.toNat 0) ∧ g.getD ((rowO g a).getD j.toNat 0).toNat zerO = mulO a (g.getD j.toNat zerO) := by
  obtain ⟨hF, hnd, hone, hcl⟩ := chk_grp hc
  have hm := hcl a ha _ (getD_mem hj.1 hj.2 zerO)
  rw [rowO_get hj.1 hj.2]
  have := idxD_mem hm
  exact ⟨⟨this.1, this.2.1⟩, at_idx hm⟩
theorem sn_new {i j : Int} {s : List Bool} (h : snP g i s j) (hi : inB g i) (hj : j < (g.length : Int)) : s.getD ((rowO g (g.getD i.toNat zerO)).getD j.toNat 0).toNat false = false := by
  obtain ⟨h1, h2, h3, h4⟩ := h
  have ha := getD_mem hi.1 hi.2 zerO
  obtain ⟨x0, x1⟩ := (row_in hc ha ⟨h1, hj⟩).1
  rw [h4 _ (by omega)]
  have hn := (row_nodup hc ha).sublist (List.take_sublist (j + 1).toNat _)
  rw [take_succ h1 (by rw [rowO_len]; exact hj) (0 : Int), List.nodup_append] at hn
  generalize (rowO g (g.getD i.toNat zerO)).getD j.toNat 0 = x at *
  refine decide_eq_false fun c => ?_
  rw [show ((x.toNat : Nat) : Int) = x by omega] at c
  exact hn.2.2 x c x (List.mem_singleton.2 rfl) rfl
theorem mulE_in {a b : Op3} (ha : a ∈ g) (hb : b ∈ g) : mulE a b = 0 := by
  obtain ⟨hF, hnd, hone, hcl⟩ := chk_grp hc
  unfold mulE
  rw [if_pos (errL_zero.2 fun o ho => by
    rcases List.mem_cons.1 ho with rfl | ho
    · exact errO_ok.2 (hF _ ha)
    · rw [List.mem_singleton.1 ho]; exact errO_ok.2 (hF _ hb))]
  have hf := hF _ (hcl a ha b hb)
  exact errM_B (by decide) hf.B
theorem fnd_idx {o : Op3} (ho : o ∈ g) : fndI g o = idxO g o ∧ fndE g o = 0 := by
  have hf : gE [o] = 0 := gE_of (by simp) fun p hp => by rw [List.mem_singleton.1 hp]; exact (chk_grp hc).1 o ho
  have hi : ¬ idxO g o < 0 := fun h => (idxD_neg.1 h) ho
  unfold fndI fndE fndF
  rw [hc, hf]
  simp [hi]
theorem st_prev2 {i : Int} (h0 : 0 < i) (hi : i < (g.length : Int)) : cmpO (g.getD (i - 1).toNat zerO) (g.getD i.toNat zerO) < 0 :=
  stP_lt (stB_iff.1 (grpB_iff.1 (chk_zero hc).2).1) (by omega) (by omega)
end
end Go.Fx
