/-
  Layer 5 in Lean: each row and each column of the table has each place once.
-/
import Derived.Test.YtcadkndjcneedaaGreatGg
set_option linter.unusedSimpArgs false
set_option linter.unusedVariables false
set_option linter.unusedSectionVars false
namespace Go.Fx
open Go
def cntI (f : Nat → Int) : Nat → Int → Int
  | 0, _ => 0
  | n + 1, x => cntI f n x + (if f n = x then 1 else 0)
def rowf (g : List Op3) (a : Int) (k : Nat) : Int := (rowO g (g.getD a.toNat zerO)).getD k 0
def colf (g : List Op3) (b : Int) (k : Nat) : Int := (rowO g (g.getD k zerO)).getD b.toNat 0
def cnP (g : List Op3) (a b : Int) (r c : List Int) (k : Int) : Prop := 0 ≤ k ∧ k ≤ (g.length : Int) ∧ r.length = g.length ∧ c.length = g.length ∧
  ∀ x : Nat, x < g.length → r.getD x 0 = cntI (rowf g a) k.toNat x ∧ c.getD x 0 = cntI (colf g b) k.toNat x
theorem row_at {g : List Op3} {a : Op3} {k : Nat} (hk : k < g.length) : (rowO g a).getD k 0 = idxO g (mulO a (g.getD k zerO)) := by
  simp [rowO, List.getD, hk]
theorem g_at {g : List Op3} {k : Nat} (hk : k < g.length) : g.getD k zerO ∈ g := by simp [List.getD, hk]
theorem idx_at {g : List Op3} (hnd : g.Nodup) {k : Nat} (hk : k < g.length) : idxO g (g.getD k zerO) = k := by
  have h : g.getD k zerO = g[k] := by simp [List.getD, hk]
  rw [h]
  refine idxD_at (List.getElem?_eq_getElem hk) fun i hi e => ?_
  have hil : i < g.length := by omega
  rw [List.getElem?_eq_getElem hil] at e
  have := nodup_inj hnd hil hk (Option.some.inj e)
  omega
theorem at_idx {g : List Op3} {p : Op3} (hp : p ∈ g) : g.getD (idxO g p).toNat zerO = p := by
  have := (idxD_mem hp).2.2
  rw [List.getD_eq_getElem?_getD]
  show (g[(idxD g p).toNat]?).getD zerO = p
  rw [this]; rfl
theorem tab_at {g : List Op3} (h : chkE g = 0) {i : Int} (hi : inB g i) : (tabL g).getD i.toNat [] = rowO g (g.getD i.toNat zerO) := by
  have hl : i.toNat < g.length := by have := hi.1; have := hi.2; omega
  unfold tabL
  rw [if_pos h]
  simp [List.getD, hl]
theorem tab_len {g : List Op3} (h : chkE g = 0) : (tabL g).length = g.length := by unfold tabL; rw [if_pos h]; simp
theorem inv_len {g : List Op3} (h : chkE g = 0) : (invL g).length = g.length := by unfold invL; rw [if_pos h]; simp
theorem inv_at {g : List Op3} (h : chkE g = 0) {i : Int} (hi : inB g i) : (0 ≤ (invL g).getD i.toNat 0 ∧ (invL g).getD i.toNat 0 < (g.length : Int)) ∧ g.getD ((invL g).getD i.toNat 0).toNat zerO = invO (g.getD i.toNat zerO) ∧ invE (g.getD i.toNat zerO) = 0 := by
  obtain ⟨hF, hnd, hone, hcl⟩ := chk_grp h
  have hl : i.toNat < g.length := by have := hi.1; have := hi.2; omega
  have hA := getD_mem hi.1 hi.2 zerO
  have e : (invL g).getD i.toNat 0 = idxI (rowO g (g.getD i.toNat zerO)) (idxO g oneO) := by
    unfold invL
    rw [if_pos h]
    simp [List.getD, hl]
  rw [e]
  obtain ⟨b, hb, hab⟩ := grp_right h hA
  have hin : idxO g oneO ∈ rowO g (g.getD i.toNat zerO) := List.mem_map.2 ⟨b, hb, by rw [hab]⟩
  have hm := idxD_mem hin
  rw [rowO_len] at hm
  have hk : (idxI (rowO g (g.getD i.toNat zerO)) (idxO g oneO)).toNat < g.length := by
    have h1 := hm.1; have h2 := hm.2.1
    show (idxD _ _).toNat < _
    omega
  have h3 : (rowO g (g.getD i.toNat zerO)).getD (idxI (rowO g (g.getD i.toNat zerO)) (idxO g oneO)).toNat 0 = idxO g oneO := by
    rw [List.getD_eq_getElem?_getD]
    show ((rowO g (g.getD i.toNat zerO))[(idxD (rowO g (g.getD i.toNat zerO)) (idxO g oneO)).toNat]?).getD 0 = _
    rw [hm.2.2]; rfl
  rw [row_at hk] at h3
  have h4 := idxO_inj (hcl _ hA _ (g_at hk)) hone h3
  have h5 : invO (g.getD i.toNat zerO) = g.getD (idxI (rowO g (g.getD i.toNat zerO)) (idxO g oneO)).toNat zerO := undo_unique (inT_mod _) (hF _ (g_at hk)).T (inv_mul (hF _ hA)).2 h4
  refine ⟨⟨hm.1, hm.2.1⟩, h5.symm, ?_⟩
  rw [invE_frm (hF _ hA)]
  have hf := hF _ (g_at hk)
  rw [← h5] at hf
  exact errM_B (by decide) hf.B
end Go.Fx
