/-
  The engine, part 16a: regions whose order is drawn: who waits for whom.
-/
import Derived.Test.YthljaepanhdmiaaE15
namespace Go.Fx
open Go RowKit

/-- A set of places that holds whom its members wait for. -/
def Closed (ops : List Oper) (D : Nat → Prop) : Prop := ∀ i o, ops[i]? = some o → D i → ∀ e ∈ o.after.toList, Region.binds .any e = true → D e.on
theorem befOne_bit {acc : List Nat} {D : Nat → Prop} {j : Nat} (hacc : ∀ i, D i → ∀ j, Nat.testBit (acc.getD i 0) j = true → D j) : ∀ (l : List Edge), (∀ e ∈ l, Region.binds .any e = true → D e.on) → Nat.testBit (befOne acc l) j = true → D j
  | [], _, h => by simp [befOne] at h
  | e :: r, hl, h => by
    unfold befOne at h
    split at h
    · rename_i hb
      rw [Nat.testBit_or, Nat.testBit_or, Bool.or_eq_true, Bool.or_eq_true] at h
      rcases h with h | h | h
      · exact befOne_bit hacc r (fun e he => hl e (List.mem_cons_of_mem _ he)) h
      · rw [Nat.testBit_two_pow] at h
        have : e.on = j := by simpa using h
        exact this ▸ hl e (List.mem_cons_self ..) hb
      · exact hacc _ (hl e (List.mem_cons_self ..) hb) j h
    · exact befOne_bit hacc r (fun e he => hl e (List.mem_cons_of_mem _ he)) h
theorem befs_bit {ops : List Oper} {D : Nat → Prop} (hD : Closed ops D) : ∀ (r : List Oper) (acc : List Nat), (∀ k, r[k]? = ops[acc.length + k]?) → (∀ i, D i → ∀ j, Nat.testBit (acc.getD i 0) j = true → D j) →
    ∀ i, D i → ∀ j, Nat.testBit ((befs r acc).getD i 0) j = true → D j
  | [], acc, _, hacc => hacc
  | o :: r, acc, hr, hacc => by
    refine befs_bit hD r _ (fun k => ?_) fun i hi j hj => ?_
    · have := hr (k + 1)
      simp only [List.getElem?_cons_succ] at this
      rw [this, List.length_append, List.length_singleton, show acc.length + (k + 1) = acc.length + 1 + k by omega]
    · have ho : ops[acc.length]? = some o := by have := hr 0; simpa using this.symm
      rw [List.getD_eq_getElem?_getD] at hj
      by_cases h1 : i < acc.length
      · rw [List.getElem?_append_left h1, ← List.getD_eq_getElem?_getD] at hj
        exact hacc i hi j hj
      · by_cases h2 : i = acc.length
        · subst h2
          simp only [List.getElem?_append_right (Nat.le_refl _), Nat.sub_self, List.getElem?_cons_zero, Option.getD_some] at hj
          exact befOne_bit hacc _ (hD _ o ho hi) hj
        · rw [List.getElem?_eq_none (by simp; omega)] at hj
          simp at hj
theorem waits_in {ops : List Oper} {D : Nat → Prop} (hD : Closed ops D) {i j : Nat} (hi : D i) (h : waitsM (befs ops []) i j = true) : D j :=
  befs_bit hD ops [] (fun k => by simp) (fun i _ j hj => by simp at hj) i hi j h

theorem mem_ready {ops : List Oper} {listed : Array Bool} {i : Nat} (h : i ∈ Region.ready .any ops.toArray listed) :
    i < ops.length ∧ listed.getD i true = false ∧ ∃ o, ops[i]? = some o ∧ ∀ e ∈ o.after.toList, Region.binds .any e = true → listed.getD e.on false = true := by
  unfold Region.ready at h
  rw [List.mem_filter, List.mem_range] at h
  obtain ⟨h1, h2⟩ := h
  have h1 : i < ops.length := by simpa using h1
  rw [Bool.and_eq_true] at h2
  obtain ⟨h2, h3⟩ := h2
  have ho : ops.toArray[i]? = some ops[i] := by simp [h1]
  rw [ho] at h3
  simp only [Option.map_some, Option.getD_some, Array.all_eq_true'] at h3
  refine ⟨h1, by simpa using h2, ops[i], by simp [h1], fun e he hb => ?_⟩
  have := h3 e (Array.mem_toList_iff.1 he)
  simpa [hb] using this
theorem ready_mem {ops : List Oper} {listed : Array Bool} {i : Nat} {o : Oper} (ho : ops[i]? = some o) (hl : listed.getD i true = false) (he : ∀ e ∈ o.after.toList, Region.binds .any e = true → listed.getD e.on false = true) :
    i ∈ Region.ready .any ops.toArray listed := by
  have hi : i < ops.length := (List.getElem?_eq_some_iff.1 ho).1
  unfold Region.ready
  rw [List.mem_filter, List.mem_range]
  refine ⟨by simpa using hi, ?_⟩
  have ho' : ops.toArray[i]? = some o := by simpa using ho
  rw [hl, ho']
  simp only [Option.map_some, Option.getD_some, Bool.not_false, Bool.true_and, Array.all_eq_true']
  intro e hm
  have := he e (Array.mem_toList_iff.2 hm)
  cases hb : Region.binds .any e with
  | false => rfl
  | true => simp [this hb]
theorem edgesLt_iff {i : Nat} : ∀ {l : List Edge}, edgesLt i l = true → ∀ e ∈ l, Region.binds .any e = true → e.on < i
  | [], _, e, he, _ => by cases he
  | x :: r, h, e, he, hb => by
    unfold edgesLt at h
    rw [Bool.and_eq_true] at h
    rcases List.mem_cons.1 he with rfl | he
    · have := h.1
      rw [hb] at this
      simpa [Nat.blt_eq] using this
    · exact edgesLt_iff h.2 e he hb
theorem allEdges_iff : ∀ {l : List Oper} {n : Nat}, allEdges l n = true → ∀ i o, l[i]? = some o → ∀ e ∈ o.after.toList, Region.binds .any e = true → e.on < n + i
  | [], n, _, i, o, ho, _, _, _ => by cases ho
  | x :: r, n, h, i, o, ho, e, he, hb => by
    unfold allEdges at h
    rw [Bool.and_eq_true] at h
    cases i with
    | zero => cases ho; exact edgesLt_iff h.1 e he hb
    | succ i => have := allEdges_iff h.2 i o (by simpa using ho) e he hb; omega

/-! ### How many are left -/
def unl (l : Array Bool) : Nat → Nat
  | 0 => 0
  | k + 1 => unl l k + (if l.getD k true then 0 else 1)
theorem unl_succ (l : Array Bool) (k : Nat) : unl l (k + 1) = unl l k + (if l.getD k true then 0 else 1) := rfl
theorem unl_zero {l : Array Bool} : ∀ {k : Nat}, unl l k = 0 → ∀ i, i < k → l.getD i true = true
  | 0, _, i, hi => by omega
  | k + 1, h, i, hi => by
    rw [unl_succ] at h
    by_cases e : i = k
    · subst e
      cases hb : l.getD i true with
      | true => rfl
      | false => rw [hb] at h; simp at h
    · exact unl_zero (k := k) (by omega) i (by omega)
theorem unl_le (l : Array Bool) : ∀ k, unl l k ≤ k
  | 0 => Nat.le_refl _
  | k + 1 => by have := unl_le l k; rw [unl_succ]; split <;> omega
theorem getD_set (l : Array Bool) (i j : Nat) (b : Bool) (d : Bool) (hi : i < l.size) : (l.setIfInBounds i b).getD j d = if i = j then b else l.getD j d := by
  simp only [Array.getD_eq_getD_getElem?, Array.getElem?_setIfInBounds]
  by_cases e : i = j
  · subst e; simp [hi]
  · simp [e]
theorem unl_set {l : Array Bool} {i : Nat} (hi : i < l.size) (hl : l.getD i true = false) : ∀ k, unl (l.setIfInBounds i true) k + (if i < k then 1 else 0) = unl l k
  | 0 => rfl
  | k + 1 => by
    have ih := unl_set hi hl k
    rw [unl_succ, unl_succ, getD_set l i k true true hi]
    by_cases e : i = k
    · subst e
      rw [if_neg (Nat.lt_irrefl _)] at ih
      rw [if_pos rfl, if_pos rfl, if_pos (Nat.lt_succ_self _), hl, if_neg (by decide)]
      omega
    · rw [if_neg e]
      by_cases h : i < k
      · rw [if_pos h] at ih; rw [if_pos (show i < k + 1 by omega)]; omega
      · rw [if_neg h] at ih; rw [if_neg (show ¬ i < k + 1 by omega)]; omega
/-- When nothing is ready, all is listed. -/
theorem ready_nil {ops : List Oper} (hE : allEdges ops 0 = true) {listed : Array Bool} (hsz : listed.size = ops.length) (h : Region.ready .any ops.toArray listed = []) : ∀ i, i < ops.length → listed.getD i true = true := by
  intro i
  induction i using Nat.strongRecOn with
  | _ i ih =>
    intro hi
    cases hl : listed.getD i true with
    | true => rfl
    | false =>
      exfalso
      have := ready_mem (ops := ops) (o := ops[i]) (by simp [hi]) hl fun e he hb => by
        have h1 := allEdges_iff hE i ops[i] (by simp [hi]) e he hb
        have h2 := ih e.on (by omega) (by omega)
        rw [Array.getD_eq_getD_getElem?] at h2 ⊢
        have : e.on < listed.size := by omega
        rw [Array.getElem?_eq_getElem this] at h2 ⊢
        exact h2
      rw [h] at this
      cases this
theorem ready_all {ops : List Oper} {listed : Array Bool} (h : ∀ i, i < ops.length → listed.getD i true = true) : Region.ready .any ops.toArray listed = [] := by
  cases e : Region.ready .any ops.toArray listed with
  | nil => rfl
  | cons i r =>
    have hm : i ∈ Region.ready .any ops.toArray listed := by rw [e]; exact List.mem_cons_self ..
    obtain ⟨h1, h2, _⟩ := mem_ready hm
    rw [h i h1] at h2
    cases h2
end Go.Fx
