/-
  A group without a map, with one twice, with two changed about is none.
-/
import Derived.Test.YthoicknhjjlnjaaGreatGk
set_option linter.unusedSimpArgs false
set_option linter.unusedVariables false
set_option linter.unusedSectionVars false
namespace Go.Fx
open Go

def lessL (g : List Op3) (k : Nat) : List Op3 := g.take k ++ g.drop (k + 1)
def twcL (g : List Op3) (k : Nat) : List Op3 := g.take (k + 1) ++ g.drop k
theorem lsub_take (g : List Op3) (i : Int) : lsub g 0 i = g.take i.toNat := by unfold lsub; rfl
theorem lsub_drop {g : List Op3} {i : Int} (h0 : 0 ≤ i) : lsub g i ((g.length : Int) - i) = g.drop i.toNat := by
  unfold lsub
  rw [List.take_of_length_le]
  rw [List.length_drop]; omega
theorem less_eq {g : List Op3} {i : Int} (hi : inB g i) : lapp (lsub g 0 i) (lsub g (i + 1) ((g.length : Int) - (i + 1))) = lessL g i.toNat := by
  rw [lsub_take, lsub_drop (by have := hi.1; omega), show (i + 1).toNat = i.toNat + 1 by have := hi.1; omega]; rfl
theorem twice_eq {g : List Op3} {i : Int} (hi : inB g i) : lapp (lsub g 0 (i + 1)) (lsub g i ((g.length : Int) - i)) = twcL g i.toNat := by
  rw [lsub_take, lsub_drop hi.1, show (i + 1).toNat = i.toNat + 1 by have := hi.1; omega]; rfl
theorem chk_5 {m : List Op3} (h1 : m.length ≤ 192) (h2 : ∀ o ∈ m, Frm o) (h : ¬ grpB m = true) : chkE m = 5 := by
  unfold chkE; rw [if_pos (gE_of h1 h2), if_neg h]
theorem chk_none {m : List Op3} (h1 : m.length ≤ 192) (h2 : ∀ o ∈ m, Frm o) (h : ¬ chkE m = 0) : chkE m = 5 := by
  refine chk_5 h1 h2 fun hb => h ?_
  unfold chkE; rw [if_pos (gE_of h1 h2), if_pos hb]
theorem less_mem {g : List Op3} {k : Nat} (hk : k < g.length) (hnd : g.Nodup) {x : Op3} : x ∈ lessL g k ↔ x ∈ g ∧ x ≠ g.getD k zerO := by
  have hgk : g.getD k zerO = g[k] := by simp [List.getD, hk]
  rw [hgk]
  have hsplit : g = g.take k ++ g[k] :: g.drop (k + 1) := by rw [← List.drop_eq_getElem_cons hk, List.take_append_drop]
  have hnd' := hnd
  rw [hsplit, List.nodup_append, List.nodup_cons] at hnd'
  unfold lessL
  rw [List.mem_append]
  constructor
  · rintro (h | h)
    · exact ⟨List.mem_of_mem_take h, fun e => hnd'.2.2 x h g[k] (List.mem_cons_self ..) e⟩
    · exact ⟨List.mem_of_mem_drop h, fun e => hnd'.2.1.1 (by rw [← e]; exact h)⟩
  · rintro ⟨h, hne⟩
    rw [hsplit, List.mem_append, List.mem_cons] at h
    rcases h with h | h | h
    · exact .inl h
    · exact absurd h hne
    · exact .inr h
theorem less_len {g : List Op3} {k : Nat} (hk : k < g.length) : (lessL g k).length = g.length - 1 := by
  unfold lessL
  rw [List.length_append, List.length_take, List.length_drop]; omega
section
variable {g : List Op3} (hc : chkE g = 0)
include hc
theorem less_5 {i : Int} (hi : inB g i) (hn : 2 < (g.length : Int)) : chkE (lessL g i.toNat) = 5 := by
  obtain ⟨hF, hnd, _, _⟩ := chk_grp hc
  have hk : i.toNat < g.length := by have := hi.1; have := hi.2; omega
  have hl := less_len hk
  have hlen := chk_len hc
  refine chk_none (by omega) (fun o ho => hF o ((less_mem hk hnd).1 ho).1) fun h => ?_
  obtain ⟨q, e⟩ := grp_div hc h fun x hx => ((less_mem hk hnd).1 hx).1
  rw [hl] at e
  have h1 : q = 0 ∨ q = 1 ∨ 2 ≤ q := by omega
  rcases h1 with rfl | rfl | h1
  · omega
  · omega
  · have := Nat.mul_le_mul_right (g.length - 1) h1
    omega
theorem two_less {i : Int} (hi : inB g i) (hn : (g.length : Int) = 2) : decide (chkE (lessL g i.toNat) = 0) = !decide (g.getD i.toNat zerO = oneO) := by
  obtain ⟨hF, hnd, hone, _⟩ := chk_grp hc
  have hk : i.toNat < g.length := by have := hi.1; have := hi.2; omega
  have hl := less_len hk
  by_cases e : g.getD i.toNat zerO = oneO
  · rw [decide_eq_true e, decide_eq_false]; rfl
    intro h
    have := ((less_mem hk hnd).1 (chk_grp h).2.2.1).2
    exact this e.symm
  · rw [decide_eq_false e, decide_eq_true]; rfl
    have h1 : oneO ∈ lessL g i.toNat := (less_mem hk hnd).2 ⟨hone, fun h => e h.symm⟩
    have h2 : lessL g i.toNat = [oneO] := by
      match hm : lessL g i.toNat with
      | [] => rw [hm] at hl; simp at hl; omega
      | [x] => rw [hm] at h1; rw [List.mem_singleton.1 h1]
      | x :: y :: r => rw [hm] at hl; simp at hl; omega
    rw [h2]; decide
theorem swap_5 {i j : Int} (hi : inB g i) (hj : inB g j) (hne : i ≠ j) : chkE (lset (lset g i (g.getD j.toNat zerO)) j (g.getD i.toNat zerO)) = 5 := by
  obtain ⟨hF, hnd, _, _⟩ := chk_grp hc
  have hst := stB_iff.1 (grpB_iff.1 (chk_zero hc).2).1
  have hi0 := hi.1; have hi1 := hi.2; have hj0 := hj.1; have hj1 := hj.2
  have hlen := chk_len hc
  have hgi := getD_mem hi0 hi1 zerO
  have hgj := getD_mem hj0 hj1 zerO
  have hl : (lset (lset g i (g.getD j.toNat zerO)) j (g.getD i.toNat zerO)).length = g.length := by unfold lset; simp
  refine chk_5 (by omega) (fun o ho => ?_) fun hb => ?_
  · unfold lset at ho
    rcases List.mem_or_eq_of_mem_set ho with h | h
    · rcases List.mem_or_eq_of_mem_set h with h | h
      · exact hF o h
      · rw [h]; exact hF _ hgj
    · rw [h]; exact hF _ hgi
  · have h1 := stB_iff.1 (grpB_iff.1 hb).1
    have ei : (lset (lset g i (g.getD j.toNat zerO)) j (g.getD i.toNat zerO)).getD i.toNat zerO = g.getD j.toNat zerO := by
      unfold lset
      rw [List.getD_eq_getElem?_getD, List.getElem?_set_ne (by omega), List.getElem?_set_self (by omega)]; rfl
    have ej : (lset (lset g i (g.getD j.toNat zerO)) j (g.getD i.toNat zerO)).getD j.toNat zerO = g.getD i.toNat zerO := by
      unfold lset
      rw [List.getD_eq_getElem?_getD, List.getElem?_set_self (by rw [List.length_set]; omega)]; rfl
    rcases Int.lt_or_lt_of_ne hne with h | h
    · have h2 := stP_lt h1 (i := i.toNat) (j := j.toNat) (by omega) (by omega)
      have h3 := stP_lt hst (i := i.toNat) (j := j.toNat) (by omega) (by omega)
      rw [ei, ej, cmpO_anti] at h2
      omega
    · have h2 := stP_lt h1 (i := j.toNat) (j := i.toNat) (by omega) (by omega)
      have h3 := stP_lt hst (i := j.toNat) (j := i.toNat) (by omega) (by omega)
      rw [ei, ej, cmpO_anti] at h2
      omega
theorem twice_5 {i : Int} (hi : inB g i) (hn : (g.length : Int) < 192) : chkE (twcL g i.toNat) = 5 := by
  obtain ⟨hF, hnd, _, _⟩ := chk_grp hc
  have hk : i.toNat < g.length := by have := hi.1; have := hi.2; omega
  refine chk_5 ?_ (fun o ho => ?_) fun hb => ?_
  · unfold twcL; rw [List.length_append, List.length_take, List.length_drop]; omega
  · unfold twcL at ho
    rcases List.mem_append.1 ho with h | h
    · exact hF o (List.mem_of_mem_take h)
    · exact hF o (List.mem_of_mem_drop h)
  · have h1 := st_nodup (grpB_iff.1 hb).1
    unfold twcL at h1
    rw [List.nodup_append] at h1
    refine h1.2.2 g[i.toNat] ?_ g[i.toNat] ?_ rfl
    · rw [List.mem_take_iff_getElem]
      exact ⟨i.toNat, by omega, rfl⟩
    · rw [List.drop_eq_getElem_cons hk]; exact List.mem_cons_self ..
end
end Go.Fx
