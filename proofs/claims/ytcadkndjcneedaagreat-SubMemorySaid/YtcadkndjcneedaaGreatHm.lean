/-
  Layer 6 in Lean: what is marked, what is grown: memory.
-/
import Derived.Test.YtcadkndjcneedaaGreatHk
import Derived.Test.YtcadkndjcneedaaGreatSe
set_option linter.unusedSimpArgs false
set_option linter.unusedVariables false
set_option linter.unusedSectionVars false
namespace Go.Fx
open Go
/-! ### Three behind a list -/
theorem lput_end {α : Type} (l r : List α) (x y : α) {n : Int} (hn : n = (l.length : Int)) : lput (l ++ x :: r) n [y] = l ++ y :: r := by
  unfold lput
  have h2 : n.toNat = l.length := by omega
  rw [h2, List.take_left, List.drop_append]
  have h3 : l.length + ([y] : List α).length - l.length = 1 := by simp
  rw [h3, List.drop_of_length_le (by simp)]
  simp
theorem spM0 (l : List Op3) (z : Op3) : lput (lrep ((l.length : Int) + 3) z) 0 (lsub l 0 (zmin (l.length : Int) (l.length : Int))) = l ++ [z, z, z] := by
  rw [lsub_all]
  unfold lput lrep
  rw [show ((l.length : Int) + 3).toNat = l.length + 3 by omega]
  simp [List.drop_replicate]
theorem spM (l : List Op3) (z a b c : Op3) : lput (lput (lput (lput (lrep ((l.length : Int) + 3) z) 0 (lsub l 0 (zmin (l.length : Int) (l.length : Int)))) (l.length : Int) [a]) ((l.length : Int) + (([a] : List Op3).length : Int)) [b]) ((l.length : Int) + (([a] : List Op3).length : Int) + (([b] : List Op3).length : Int)) [c] = l ++ [a, b, c] := by
  have e1 : l ++ a :: [z, z] = (l ++ [a]) ++ z :: [z] := by simp
  have e2 : (l ++ [a]) ++ b :: [z] = (l ++ [a, b]) ++ z :: [] := by simp
  rw [spM0, lput_end l [z, z] z a rfl, e1, lput_end (l ++ [a]) [z] z b (by simp), e2, lput_end (l ++ [a, b]) [] z c (by simp; omega)]
  simp
theorem sp1 {l : List Op3} (h : l.length * 96 ≤ 140737488351232) (z : Op3) : leP 0 (l.length : Int) ∧ (leP (l.length : Int) ((l.length : Int) + 3) ∧ lfit 96 (lrep ((l.length : Int) + 3) z)) := by
  refine ⟨by show (0 : Int) ≤ _; omega, by show (_ : Int) ≤ _; omega, ?_⟩
  show (lrep ((l.length : Int) + 3) z).length * 96 ≤ 140737488355328
  unfold lrep
  rw [List.length_replicate]
  omega
theorem sp3 (l : List Op3) (z a : Op3) : leP ((l.length : Int) + (([a] : List Op3).length : Int)) ((lput (lrep ((l.length : Int) + 3) z) 0 (lsub l 0 (zmin (l.length : Int) (l.length : Int)))).length : Int) := by
  rw [spM0]
  show (_ : Int) ≤ _
  simp
theorem sp4 (l : List Op3) (z a b : Op3) : leP ((l.length : Int) + (([a] : List Op3).length : Int) + (([b] : List Op3).length : Int)) ((lput (lput (lrep ((l.length : Int) + 3) z) 0 (lsub l 0 (zmin (l.length : Int) (l.length : Int)))) (l.length : Int) [a]).length : Int) := by
  rw [spM0, lput_end l [z, z] z a rfl]
  show (_ : Int) ≤ _
  simp
  omega
theorem sp5 (l : List Op3) (z a b c : Op3) : leP ((l.length : Int) + (([a] : List Op3).length : Int) + (([b] : List Op3).length : Int) + (([c] : List Op3).length : Int)) ((lput (lput (lput (lrep ((l.length : Int) + 3) z) 0 (lsub l 0 (zmin (l.length : Int) (l.length : Int)))) (l.length : Int) [a]) ((l.length : Int) + (([a] : List Op3).length : Int)) [b]).length : Int) := by
  have e1 : l ++ a :: [z, z] = (l ++ [a]) ++ z :: [z] := by simp
  rw [spM0, lput_end l [z, z] z a rfl, e1, lput_end (l ++ [a]) [z] z b (by simp)]
  show (_ : Int) ≤ _
  simp
  omega
theorem sp6 (l : List Op3) (a b c : Op3) : leP 0 0 ∧ (leP 0 (l.length : Int) ∧ leP (l.length : Int) ((l.length : Int) + (([a] : List Op3).length : Int) + (([b] : List Op3).length : Int) + (([c] : List Op3).length : Int))) := by
  refine ⟨Int.le_refl _, by show (0 : Int) ≤ _; omega, ?_⟩
  show (_ : Int) ≤ _
  simp
  omega
theorem sp_len (l : List Op3) (a b c : Op3) : ((l ++ [a, b, c]).length : Int) = (l.length : Int) + (([a] : List Op3).length : Int) + (([b] : List Op3).length : Int) + (([c] : List Op3).length : Int) := by
  simp
  omega
/-! ### A list of maps is marked -/
def mmI (a : List Op3) (i : Int) : Prop := 0 ≤ i ∧ i ≤ (a.length : Int)
def mmMu (a : List Op3) (i : Int) : Int := (a.length : Int) - i
theorem mm_0 (a : List Op3) : mmI a 0 := ⟨Int.le_refl _, by omega⟩
theorem mm_next {l : List Op3} {i n : Int} (hn : n ≤ 1466015503701) (hI : mmI l i) (hL : (l.length : Int) = n) (hi : i < n) : inB l i ∧ ∀ x, mmI (lset l i x) (w64 (i + 1)) ∧ (decide (0 ≤ mmMu (lset l i x) (w64 (i + 1))) = true ∧ decide (mmMu (lset l i x) (w64 (i + 1)) < mmMu l i) = true) := by
  obtain ⟨h1, h2⟩ := hI
  have e : w64 (i + 1) = i + 1 := w64_id (by omega) (by omega)
  refine ⟨⟨h1, by omega⟩, fun x => ?_⟩
  have hl : (lset l i x).length = l.length := lset_len l i x
  rw [e]
  refine ⟨⟨by omega, by rw [hl]; omega⟩, decide_eq_true ?_, decide_eq_true ?_⟩ <;> unfold mmMu <;> rw [hl] <;> omega
theorem mm_app {l z : List Op3} (hz : z.length ≤ 192) (hL : eqP (l.length : Int) (z.length : Int)) : lfit 96 (lapp l [oneO]) ∧ ¬ (!(decide (((lapp l [oneO]).length : Int) = (l.length : Int) + 1))) = true := by
  have hL : (l.length : Int) = (z.length : Int) := hL
  have e : (lapp l [oneO]).length = l.length + 1 := by unfold lapp; simp
  refine ⟨?_, ?_⟩
  · show (lapp l [oneO]).length * 96 ≤ 140737488355328
    rw [e]; omega
  · rw [e]; simp
theorem smq_ne {a b x : List Op3} (h1 : a = x) (h2 : b = x) : ¬ (!smO a b) = true := by
  rw [h1, h2]; simp [smO]
theorem sc_ne {a b x : List (List Int)} (h1 : a = x) (h2 : b = x) : ¬ (!smC a b) = true := by
  rw [h1, h2]; simp [smC]
/-! ### How long they are -/
theorem me192 (g h : List Op3) : (meL g h).length ≤ 192 := by
  by_cases hz : two g h = 0
  · exact chk_len (me_chk hz)
  · rw [show meL g h = [] from if_neg hz]; exact Nat.zero_le _
theorem he192 (g : List Op3) : (heL g).length ≤ 192 := by
  by_cases hg : chkE g = 0
  · exact chk_len (he_chk hg)
  · rw [show heL g = [] from if_neg hg]; exact Nat.zero_le _
theorem jo192 (g h : List Op3) : (joL g h).length ≤ 192 := by
  by_cases hz : two g h = 0
  · by_cases hj : joE g h = 0
    · exact chk_len (jo_ok hz hj).1
    · rw [(jo_no hz hj).2]; exact Nat.zero_le _
  · rw [show joL g h = [] from if_neg hz]; exact Nat.zero_le _
/-- Few rows, none of them long. -/
def fewC (l : List (List Int)) (n : Nat) : Prop := l.length ≤ n ∧ ∀ c ∈ l, c.length ≤ 192
theorem pa_few {l : List (List Int)} {n : Int} (h : paP l n) : fewC l 192 := by
  obtain ⟨⟨h1, h2, h3⟩, h4, h5, h6, h7⟩ := h
  refine ⟨by omega, fun c hc => ?_⟩
  have hn : c.Nodup := (h6 c hc).2.imp fun h => by omega
  have h8 := nodup_le (m := (List.range n.toNat).map fun k : Nat => (k : Int)) hn fun x hx => by
    have := (h5 x).1 (List.mem_flatten.2 ⟨c, hc, hx⟩)
    exact List.mem_map.2 ⟨x.toNat, List.mem_range.2 (by omega), by omega⟩
  rw [List.length_map, List.length_range] at h8
  omega
theorem few_nil : fewC [] 192 := ⟨Nat.zero_le _, fun c hc => by cases hc⟩
theorem cs_few (g h : List Op3) : fewC (csC g h) 192 := by
  by_cases hz : boE g h = 0
  · obtain ⟨hg, hh, hs, _, _⟩ := bo_zero hz
    exact pa_few (csC_pa hg hh hs)
  · rw [show csC g h = [] from if_neg hz]; exact few_nil
theorem cl_few (g : List Op3) : fewC (clC g) 192 := by
  by_cases hg : chkE g = 0
  · exact pa_few (clC_pa hg)
  · rw [show clC g = [] from if_neg hg]; exact few_nil
theorem few_app {l m : List (List Int)} {a b : Nat} (h1 : fewC l a) (h2 : fewC m b) : fewC (lapp l m) (a + b) := by
  unfold lapp
  refine ⟨by rw [List.length_append]; have := h1.1; have := h2.1; omega, fun c hc => ?_⟩
  rcases List.mem_append.1 hc with hc | hc
  · exact h1.2 c hc
  · exact h2.2 c hc
theorem few_nil0 : fewC [] 0 := ⟨Nat.le_refl _, fun c hc => by cases hc⟩
theorem few_fit {l : List (List Int)} {n : Nat} (h : fewC l n) (hn : n ≤ 1000) : lfit 24 l := by
  have := h.1
  show l.length * 24 ≤ 140737488355328
  omega
theorem few_row {l : List (List Int)} {n : Nat} (h : fewC l n) (k : Nat) : (l.getD k []).length ≤ 192 := by
  rw [List.getD_eq_getElem?_getD]
  cases e : l[k]? with
  | none => exact Nat.zero_le _
  | some c => exact h.2 c (List.mem_of_getElem? e)
theorem lensq_eq {a b : List (List Int)} (h : eqLs (lensI a) (lensI b)) : a.length = b.length ∧ ∀ k, (a.getD k []).length = (b.getD k []).length := by
  have h : a.map (fun l : List Int => (l.length : Int)) = b.map (fun l : List Int => (l.length : Int)) := h
  have hl : a.length = b.length := by have := congrArg List.length h; simpa using this
  refine ⟨hl, fun k => ?_⟩
  have h2 := congrArg (fun l : List Int => l[k]?) h
  simp only [List.getElem?_map] at h2
  rw [List.getD_eq_getElem?_getD, List.getD_eq_getElem?_getD]
  cases e1 : a[k]? with
  | none =>
    cases e2 : b[k]? with
    | none => rfl
    | some c => rw [e1, e2] at h2; cases h2
  | some c =>
    cases e2 : b[k]? with
    | none => rw [e1, e2] at h2; cases h2
    | some d =>
      rw [e1, e2] at h2
      simp only [Option.map_some, Option.some.injEq] at h2
      show c.length = d.length
      omega
/-! ### Rows of places are marked -/
def mkR (l : List (List Int)) (k : Nat) (n : Nat) : Prop := ∀ m, m < n → (l.getD k []).getD m 0 = 1000 * (k : Int) + (m : Int)
def mkO (l : List (List Int)) (i : Int) : Prop := 0 ≤ i ∧ i ≤ (l.length : Int) ∧ ∀ k, k < i.toNat → mkR l k (l.getD k []).length
def mkN (l : List (List Int)) (i j : Int) : Prop := mkO l i ∧ i < (l.length : Int) ∧ 0 ≤ j ∧ j ≤ ((l.getD i.toNat []).length : Int) ∧ mkR l i.toNat j.toNat
def cgI (i : Int) : Prop := 0 ≤ i
def ckMu (l : List (List Int)) (i : Int) : Int := (l.length : Int) - i
def rwMu (l : List (List Int)) (i j : Int) : Int := ((l.getD i.toNat []).length : Int) - j
theorem mk_0 (l : List (List Int)) : mkO l 0 := ⟨Int.le_refl _, by omega, fun k hk => by simp at hk⟩
theorem mk_in {l : List (List Int)} {i : Int} (h : mkO l i) (hi : i < (l.length : Int)) : mkN l i 0 := ⟨h, hi, Int.le_refl _, by omega, fun m hm => by simp at hm⟩
theorem lset_getD {α : Type} {l : List α} {i : Int} (h0 : 0 ≤ i) (hi : i < (l.length : Int)) (x d : α) (k : Nat) : (lset l i x).getD k d = if k = i.toNat then x else l.getD k d := by
  unfold lset
  rw [List.getD_eq_getElem?_getD, List.getElem?_set]
  by_cases e : i.toNat = k
  · rw [if_pos e, if_pos e.symm, if_pos (by omega)]; rfl
  · rw [if_neg e, if_neg fun e' => e e'.symm, ← List.getD_eq_getElem?_getD]
theorem mk_next {l l0 : List (List Int)} {i j : Int} {n : Nat} (hn : n ≤ 1000) (hl : l.length ≤ n) (hN : mkN l i j) (hL : eqLs (lensI l) (lensI l0)) (h192 : (l.getD i.toNat []).length ≤ 192) (hj : j < ((l0.getD i.toNat []).length : Int)) :
    inB l i ∧ (inB (l.getD i.toNat []) j ∧ (mkN (lset l i (lset (l.getD i.toNat []) j (w64 (w64 (1000 * i) + j)))) i (w64 (j + 1)) ∧
      (decide (0 ≤ rwMu (lset l i (lset (l.getD i.toNat []) j (w64 (w64 (1000 * i) + j)))) i (w64 (j + 1))) = true ∧ decide (rwMu (lset l i (lset (l.getD i.toNat []) j (w64 (w64 (1000 * i) + j)))) i (w64 (j + 1)) < rwMu l i j) = true))) := by
  obtain ⟨⟨i0, i1, hO⟩, hi, j0, j1, hR⟩ := hN
  have hj : j < ((l.getD i.toNat []).length : Int) := by rw [(lensq_eq hL).2]; exact hj
  have e1 : w64 (j + 1) = j + 1 := w64_id (by omega) (by omega)
  have e2 : w64 (1000 * i) = 1000 * i := w64_id (by omega) (by omega)
  have e3 : w64 (1000 * i + j) = 1000 * i + j := w64_id (by omega) (by omega)
  rw [e1, e2, e3]
  have hg := lset_getD i0 hi (lset (l.getD i.toNat []) j (1000 * i + j)) []
  have hll : (lset l i (lset (l.getD i.toNat []) j (1000 * i + j))).length = l.length := lset_len _ _ _
  have hrl : (lset (l.getD i.toNat []) j (1000 * i + j)).length = (l.getD i.toNat []).length := lset_len _ _ _
  have hgi := hg i.toNat
  rw [if_pos rfl] at hgi
  refine ⟨⟨i0, hi⟩, ⟨j0, hj⟩, ⟨⟨i0, by rw [hll]; exact i1, fun k hk => ?_⟩, by rw [hll]; exact hi, by omega, by rw [hgi, hrl]; omega, fun m hm => ?_⟩, decide_eq_true ?_, decide_eq_true ?_⟩
  · have hk' := hg k
    rw [if_neg (by omega)] at hk'
    intro m hm
    rw [hk'] at hm ⊢
    exact hO k hk m hm
  · rw [hgi, lset_getD j0 hj]
    split
    · rename_i e; omega
    · rename_i e; exact hR m (by omega)
  · unfold rwMu; rw [hgi, hrl]; omega
  · unfold rwMu; rw [hgi, hrl]; omega
theorem mk_end {l l0 : List (List Int)} {i j : Int} {n : Nat} (hn : n ≤ 1000) (hl : l.length ≤ n) (hN : mkN l i j) (hL : eqLs (lensI l) (lensI l0)) (hj : ¬ j < ((l0.getD i.toNat []).length : Int)) :
    mkO l (w64 (i + 1)) ∧ (decide (0 ≤ ckMu l (w64 (i + 1))) = true ∧ decide (ckMu l (w64 (i + 1)) < ckMu l0 i) = true) := by
  obtain ⟨⟨i0, i1, hO⟩, hi, j0, j1, hR⟩ := hN
  obtain ⟨k1, k2⟩ := lensq_eq hL
  have hj : ¬ j < ((l.getD i.toNat []).length : Int) := by rw [k2]; exact hj
  have e1 : w64 (i + 1) = i + 1 := w64_id (by omega) (by omega)
  rw [e1]
  refine ⟨⟨by omega, by omega, fun k hk => ?_⟩, decide_eq_true ?_, decide_eq_true ?_⟩
  · by_cases e : k = i.toNat
    · subst e
      intro m hm
      exact hR m (by omega)
    · exact hO k (by omega)
  · unfold ckMu; omega
  · unfold ckMu; omega
/-- All rows are marked. -/
theorem mk_all {l : List (List Int)} {i : Int} (h : mkO l i) (hi : ¬ i < (l.length : Int)) {k : Int} (k0 : 0 ≤ k) (hk : k < (l.length : Int)) {m : Int} (m0 : 0 ≤ m) (hm : m < ((l.getD k.toNat []).length : Int)) : (l.getD k.toNat []).getD m.toNat 0 = 1000 * k + m := by
  have := h.2.2 k.toNat (by omega) m.toNat (by omega)
  rw [this]; omega
theorem gro_fit {l l0 : List (List Int)} {n : Nat} (h : fewC l0 n) (hL : eqLs (lensI l) (lensI l0)) : dupFit l := fun c hc => by
  obtain ⟨k, hk⟩ := List.getElem?_of_mem hc
  have h1 := few_row h k
  rw [← (lensq_eq hL).2 k, List.getD_eq_getElem?_getD, hk] at h1
  have h1 : c.length ≤ 192 := h1
  omega
theorem gro_get {l : List (List Int)} {k : Int} (k0 : 0 ≤ k) (hk : k < (l.length : Int)) : (groL l).getD k.toNat [] = l.getD k.toNat [] ++ [-2 * k, -2 * k - 1] := by
  have h1 : k.toNat < l.length := by omega
  rw [List.getD_eq_getElem?_getD, groL_get (List.getElem?_eq_getElem h1), List.getD_eq_getElem?_getD, List.getElem?_eq_getElem h1]
  have e : ((k.toNat : Nat) : Int) = k := by omega
  rw [e]; rfl
theorem gro_in {l : List (List Int)} {k : Int} (k0 : 0 ≤ k) (hk : k < (l.length : Int)) : inB (groL l) k := ⟨k0, by show k < ((groL l).length : Int); rw [groL_len]; exact hk⟩
/-- The row's end. -/
theorem row_end (r : List Int) (a b : Int) : inB (r ++ [a, b]) (r.length : Int) ∧ inB (r ++ [a, b]) ((r.length : Int) + 1) ∧ (r ++ [a, b]).getD ((r.length : Int)).toNat 0 = a ∧ (r ++ [a, b]).getD ((r.length : Int) + 1).toNat 0 = b := by
  refine ⟨⟨by omega, by simp; omega⟩, ⟨by omega, by simp⟩, ?_, ?_⟩
  · rw [show ((r.length : Int)).toNat = r.length by omega, List.getD_eq_getElem?_getD, List.getElem?_append_right (Nat.le_refl _)]; simp
  · rw [show ((r.length : Int) + 1).toNat = r.length + 1 by omega, List.getD_eq_getElem?_getD, List.getElem?_append_right (by omega)]; simp
theorem row_old (r : List Int) (a b : Int) {m : Int} (m0 : 0 ≤ m) (hm : m < (r.length : Int)) : inB (r ++ [a, b]) m ∧ (r ++ [a, b]).getD m.toNat 0 = r.getD m.toNat 0 := by
  refine ⟨⟨m0, by simp; omega⟩, ?_⟩
  rw [List.getD_eq_getElem?_getD, List.getElem?_append_left (by omega), ← List.getD_eq_getElem?_getD]
theorem ck_next {i n : Int} (h : cgI i) (hi : i < n) (hn : n ≤ 1000) : w64 (i + 1) = i + 1 ∧ cgI (w64 (i + 1)) := by
  have h : 0 ≤ i := h
  have e : w64 (i + 1) = i + 1 := w64_id (by omega) (by omega)
  exact ⟨e, by rw [e]; show (0 : Int) ≤ i + 1; omega⟩
theorem mm_sp {g l : List Op3} {i : Int} {a b c : Op3} (hg : g.length * 96 ≤ 140737488351232) (hI : mmI l i) (hL : eqP (l.length : Int) ((g ++ [a, b, c]).length : Int)) (hi : decide (i < (g.length : Int) + (([a] : List Op3).length : Int) + (([b] : List Op3).length : Int) + (([c] : List Op3).length : Int)) = true) :
    inR i ((g.length : Int) + (([a] : List Op3).length : Int) + (([b] : List Op3).length : Int) + (([c] : List Op3).length : Int)) ∧ ∀ x, mmI (lset l i x) (w64 (i + 1)) ∧ (decide (0 ≤ mmMu (lset l i x) (w64 (i + 1))) = true ∧ decide (mmMu (lset l i x) (w64 (i + 1)) < mmMu l i) = true) := by
  have hL : (l.length : Int) = ((g ++ [a, b, c]).length : Int) := hL
  rw [sp_len] at hL
  have hi := of_decide_eq_true hi
  obtain ⟨m1, m2⟩ := mm_next (by simp only [List.length_cons, List.length_nil]; omega) hI hL hi
  exact ⟨⟨hI.1, hi⟩, m2⟩
theorem le_of {a b : List Op3} (h : a = b) (hb : b.length ≤ 192) : a.length ≤ 192 := by rw [h]; exact hb
theorem few_of {a b : List (List Int)} (h : a = b) (hb : fewC b 192) : fewC a 192 := by rw [h]; exact hb
end Go.Fx
