/-
  slices.Compact: what the executor asks of it.
-/
import Derived.Test.YthoicknhjjlnjaaGreatSc
set_option linter.unusedSimpArgs false
set_option linter.unusedVariables false
set_option linter.unusedSectionVars false
set_option maxRecDepth 10000
namespace Go.Fx
open Go
def lnV (s : List V3) (k : Int) : Int := (s.length : Int) - k
def lnS (s : List V3) (k0 k : Int) : Int := (s.length : Int) - k0 - k
theorem compact_V (s : List V3) (hs : s.length * 24 ≤ 140737488355328) (Fin : List V3 → Prop) (hF : Fin (cpG s)) :
    (((decide ((s.length : Int) < 2)) = true →
 Fin s) ∧
((decide ((s.length : Int) < 2)) = false →
(cpOV s 1 ∧
∀ k : Int,
((decide ((-9223372036854775808) ≤ k)) = true →
((decide (k ≤ 9223372036854775807)) = true →
(cpOV s k →
(((decide (k < (s.length : Int))) = true →
 (inB s k ∧
 (inB s ((w64 (k - 1))) ∧
 ((((decide (((s.getD (k).toNat (V3.mk 0 0 0))).x = ((s.getD ((w64 (k - 1))).toNat (V3.mk 0 0 0))).x)) && ((decide (((s.getD (k).toNat (V3.mk 0 0 0))).y = ((s.getD ((w64 (k - 1))).toNat (V3.mk 0 0 0))).y)) && ((decide (((s.getD (k).toNat (V3.mk 0 0 0))).z = ((s.getD ((w64 (k - 1))).toNat (V3.mk 0 0 0))).z)) && true))) = true →
  ((leP 0 k ∧
   (leP k ((s.length : Int)) ∧
   leP ((s.length : Int)) ((s.length : Int)))) ∧
  (cpIV s k s k 1 ∧
  ∀ t : List V3,
  ∀ m : Int,
  ((decide ((-9223372036854775808) ≤ m)) = true →
  ((decide (m ≤ 9223372036854775807)) = true →
  ∀ j : Int,
  ((decide ((-9223372036854775808) ≤ j)) = true →
  ((decide (j ≤ 9223372036854775807)) = true →
  (cpIV s k t m j →
  (eqP (t.length : Int) ((s.length : Int)) →
  (((decide (j < ((s.length : Int) - k))) = true →
   (inR j (((s.length : Int) - k)) ∧
   (inR ((w64 (j - 1))) (((s.length : Int) - k)) ∧
   (((!((decide (((t.getD ((k + j)).toNat (V3.mk 0 0 0))).x = ((t.getD ((k + (w64 (j - 1)))).toNat (V3.mk 0 0 0))).x)) && ((decide (((t.getD ((k + j)).toNat (V3.mk 0 0 0))).y = ((t.getD ((k + (w64 (j - 1)))).toNat (V3.mk 0 0 0))).y)) && ((decide (((t.getD ((k + j)).toNat (V3.mk 0 0 0))).z = ((t.getD ((k + (w64 (j - 1)))).toNat (V3.mk 0 0 0))).z)) && true)))) = true →
    (inR j (((s.length : Int) - k)) ∧
    (inB t m ∧
    (cpIV s k (lset t m ((t.getD ((k + j)).toNat (V3.mk 0 0 0)))) ((w64 (m + 1))) ((w64 (j + 1))) ∧
    ((decide (0 ≤ lnS s k ((w64 (j + 1))))) = true ∧
    (decide (lnS s k ((w64 (j + 1))) < lnS s k j)) = true))))) ∧
   ((!((decide (((t.getD ((k + j)).toNat (V3.mk 0 0 0))).x = ((t.getD ((k + (w64 (j - 1)))).toNat (V3.mk 0 0 0))).x)) && ((decide (((t.getD ((k + j)).toNat (V3.mk 0 0 0))).y = ((t.getD ((k + (w64 (j - 1)))).toNat (V3.mk 0 0 0))).y)) && ((decide (((t.getD ((k + j)).toNat (V3.mk 0 0 0))).z = ((t.getD ((k + (w64 (j - 1)))).toNat (V3.mk 0 0 0))).z)) && true)))) = false →
   (cpIV s k t m ((w64 (j + 1))) ∧
   ((decide (0 ≤ lnS s k ((w64 (j + 1))))) = true ∧
   (decide (lnS s k ((w64 (j + 1))) < lnS s k j)) = true))))))) ∧
  ((decide (j < ((s.length : Int) - k))) = false →
  ((leP 0 m ∧
   (leP m (t.length : Int) ∧
   leP (t.length : Int) (t.length : Int))) ∧
  (True ∧
  ((leP 0 0 ∧
   (leP 0 m ∧
   leP m (((lput t m ((lrep (((t.length : Int) - m)) (V3.mk 0 0 0)))).length : Int)))) ∧
  Fin (lsub (lput t m ((lrep (((t.length : Int) - m)) (V3.mk 0 0 0)))) 0 m))))))))))))))) ∧
 (((decide (((s.getD (k).toNat (V3.mk 0 0 0))).x = ((s.getD ((w64 (k - 1))).toNat (V3.mk 0 0 0))).x)) && ((decide (((s.getD (k).toNat (V3.mk 0 0 0))).y = ((s.getD ((w64 (k - 1))).toNat (V3.mk 0 0 0))).y)) && ((decide (((s.getD (k).toNat (V3.mk 0 0 0))).z = ((s.getD ((w64 (k - 1))).toNat (V3.mk 0 0 0))).z)) && true))) = false →
 (cpOV s ((w64 (k + 1))) ∧
 ((decide (0 ≤ lnV s ((w64 (k + 1))))) = true ∧
 (decide (lnV s ((w64 (k + 1))) < lnV s k)) = true))))))) ∧
((decide (k < (s.length : Int))) = false →
Fin s)))))))) := by
  refine ⟨fun h2 => ?_, fun h2 => ⟨cp_init (by have := of_decide_eq_false h2; omega), fun k _ _ hK => ⟨fun hk => ?_, fun hk => ?_⟩⟩⟩
  · have h2 := of_decide_eq_true h2
    match s, h2 with
    | [], _ => exact hF
    | [x], _ => exact hF
    | x :: y :: r, h => simp at h; omega
  · have hk := of_decide_eq_true hk
    have hK1 : 1 ≤ k := hK.1
    have k1 : w64 (k - 1) = k - 1 := w64_id (by omega) (by omega)
    have k2 : w64 (k + 1) = k + 1 := w64_id (by omega) (by omega)
    rw [k1, k2, eqVc]
    refine ⟨⟨by omega, hk⟩, ⟨by omega, by omega⟩, fun he => ⟨⟨by show (0 : Int) ≤ k; omega, Int.le_of_lt hk, Int.le_refl _⟩, cpi_init hK hk (of_decide_eq_true he), fun t m _ _ j _ _ hI hl => ⟨fun hj => ?_, fun hj => ?_⟩⟩, fun he => ⟨cp_step hK hk (of_decide_eq_false he), decide_eq_true (by unfold lnV; omega), decide_eq_true (by unfold lnV; omega)⟩⟩
    · have hj := of_decide_eq_true hj
      have hj1 : 1 ≤ j := hI.2.1
      have hm1 : 1 ≤ m := hI.2.2.2.2.1
      have hm2 : m < k + j := hI.2.2.2.2.2.1
      have hl : t.length = s.length := hI.2.2.2.1
      have j1 : w64 (j - 1) = j - 1 := w64_id (by omega) (by omega)
      have j2 : w64 (j + 1) = j + 1 := w64_id (by omega) (by omega)
      have m2 : w64 (m + 1) = m + 1 := w64_id (by omega) (by omega)
      have a1 := cpi_at hI (m := k + j) (by omega) (by omega) (V3.mk 0 0 0)
      have a2 := cpi_at hI (m := k + (j - 1)) (by omega) (by omega) (V3.mk 0 0 0)
      rw [j1, j2, m2, eqVc, a1, a2, show k + (j - 1) = k + j - 1 by omega]
      refine ⟨⟨by omega, hj⟩, ⟨by omega, by omega⟩, fun hn => ⟨⟨by omega, hj⟩, ⟨by omega, by omega⟩, cpi_diff hI (by omega) rfl (by simpa using hn), decide_eq_true (by unfold lnS; omega), decide_eq_true (by unfold lnS; omega)⟩, fun hn => ⟨cpi_same hI (by omega) (by simpa using hn), decide_eq_true (by unfold lnS; omega), decide_eq_true (by unfold lnS; omega)⟩⟩
    · have hj := of_decide_eq_false hj
      have hm1 : 1 ≤ m := hI.2.2.2.2.1
      obtain ⟨q1, q2⟩ := cpi_end hI hj ((t.length : Int) - m) (V3.mk 0 0 0)
      refine ⟨⟨by show (0 : Int) ≤ m; omega, q2, Int.le_refl _⟩, trivial, ⟨Int.le_refl _, by show (0 : Int) ≤ m; omega, ?_⟩, by rw [q1]; exact hF⟩
      show m ≤ ((lput t m (lrep ((t.length : Int) - m) (V3.mk 0 0 0))).length : Int)
      unfold lput lrep
      simp only [List.length_append, List.length_take, List.length_replicate, List.length_drop]
      omega
  · rw [← cp_end hK (of_decide_eq_false hk)]; exact hF
def lnX (s : List Pt) (k : Int) : Int := (s.length : Int) - k
def lnY (s : List Pt) (k0 k : Int) : Int := (s.length : Int) - k0 - k
theorem compact_X (s : List Pt) (hs : s.length * 32 ≤ 140737488355328) (Fin : List Pt → Prop) (hF : Fin (cpG s)) :
    (((decide ((s.length : Int) < 2)) = true →
 Fin s) ∧
((decide ((s.length : Int) < 2)) = false →
(cpOX s 1 ∧
∀ k : Int,
((decide ((-9223372036854775808) ≤ k)) = true →
((decide (k ≤ 9223372036854775807)) = true →
(cpOX s k →
(((decide (k < (s.length : Int))) = true →
 (inB s k ∧
 (inB s ((w64 (k - 1))) ∧
 ((((decide (((s.getD (k).toNat (Pt.mk 0 (V3.mk 0 0 0)))).M = ((s.getD ((w64 (k - 1))).toNat (Pt.mk 0 (V3.mk 0 0 0)))).M)) && ((decide (((s.getD (k).toNat (Pt.mk 0 (V3.mk 0 0 0)))).X.x = ((s.getD ((w64 (k - 1))).toNat (Pt.mk 0 (V3.mk 0 0 0)))).X.x)) && ((decide (((s.getD (k).toNat (Pt.mk 0 (V3.mk 0 0 0)))).X.y = ((s.getD ((w64 (k - 1))).toNat (Pt.mk 0 (V3.mk 0 0 0)))).X.y)) && ((decide (((s.getD (k).toNat (Pt.mk 0 (V3.mk 0 0 0)))).X.z = ((s.getD ((w64 (k - 1))).toNat (Pt.mk 0 (V3.mk 0 0 0)))).X.z)) && true)))) = true →
  ((leP 0 k ∧
   (leP k ((s.length : Int)) ∧
   leP ((s.length : Int)) ((s.length : Int)))) ∧
  (cpIX s k s k 1 ∧
  ∀ t : List Pt,
  ∀ m : Int,
  ((decide ((-9223372036854775808) ≤ m)) = true →
  ((decide (m ≤ 9223372036854775807)) = true →
  ∀ j : Int,
  ((decide ((-9223372036854775808) ≤ j)) = true →
  ((decide (j ≤ 9223372036854775807)) = true →
  (cpIX s k t m j →
  (eqP (t.length : Int) ((s.length : Int)) →
  (((decide (j < ((s.length : Int) - k))) = true →
   (inR j (((s.length : Int) - k)) ∧
   (inR ((w64 (j - 1))) (((s.length : Int) - k)) ∧
   (((!((decide (((t.getD ((k + j)).toNat (Pt.mk 0 (V3.mk 0 0 0)))).M = ((t.getD ((k + (w64 (j - 1)))).toNat (Pt.mk 0 (V3.mk 0 0 0)))).M)) && ((decide (((t.getD ((k + j)).toNat (Pt.mk 0 (V3.mk 0 0 0)))).X.x = ((t.getD ((k + (w64 (j - 1)))).toNat (Pt.mk 0 (V3.mk 0 0 0)))).X.x)) && ((decide (((t.getD ((k + j)).toNat (Pt.mk 0 (V3.mk 0 0 0)))).X.y = ((t.getD ((k + (w64 (j - 1)))).toNat (Pt.mk 0 (V3.mk 0 0 0)))).X.y)) && ((decide (((t.getD ((k + j)).toNat (Pt.mk 0 (V3.mk 0 0 0)))).X.z = ((t.getD ((k + (w64 (j - 1)))).toNat (Pt.mk 0 (V3.mk 0 0 0)))).X.z)) && true))))) = true →
    (inR j (((s.length : Int) - k)) ∧
    (inB t m ∧
    (cpIX s k (lset t m ((t.getD ((k + j)).toNat (Pt.mk 0 (V3.mk 0 0 0))))) ((w64 (m + 1))) ((w64 (j + 1))) ∧
    ((decide (0 ≤ lnY s k ((w64 (j + 1))))) = true ∧
    (decide (lnY s k ((w64 (j + 1))) < lnY s k j)) = true))))) ∧
   ((!((decide (((t.getD ((k + j)).toNat (Pt.mk 0 (V3.mk 0 0 0)))).M = ((t.getD ((k + (w64 (j - 1)))).toNat (Pt.mk 0 (V3.mk 0 0 0)))).M)) && ((decide (((t.getD ((k + j)).toNat (Pt.mk 0 (V3.mk 0 0 0)))).X.x = ((t.getD ((k + (w64 (j - 1)))).toNat (Pt.mk 0 (V3.mk 0 0 0)))).X.x)) && ((decide (((t.getD ((k + j)).toNat (Pt.mk 0 (V3.mk 0 0 0)))).X.y = ((t.getD ((k + (w64 (j - 1)))).toNat (Pt.mk 0 (V3.mk 0 0 0)))).X.y)) && ((decide (((t.getD ((k + j)).toNat (Pt.mk 0 (V3.mk 0 0 0)))).X.z = ((t.getD ((k + (w64 (j - 1)))).toNat (Pt.mk 0 (V3.mk 0 0 0)))).X.z)) && true))))) = false →
   (cpIX s k t m ((w64 (j + 1))) ∧
   ((decide (0 ≤ lnY s k ((w64 (j + 1))))) = true ∧
   (decide (lnY s k ((w64 (j + 1))) < lnY s k j)) = true))))))) ∧
  ((decide (j < ((s.length : Int) - k))) = false →
  ((leP 0 m ∧
   (leP m (t.length : Int) ∧
   leP (t.length : Int) (t.length : Int))) ∧
  (True ∧
  ((leP 0 0 ∧
   (leP 0 m ∧
   leP m (((lput t m ((lrep (((t.length : Int) - m)) (Pt.mk 0 (V3.mk 0 0 0))))).length : Int)))) ∧
  Fin (lsub (lput t m ((lrep (((t.length : Int) - m)) (Pt.mk 0 (V3.mk 0 0 0))))) 0 m))))))))))))))) ∧
 (((decide (((s.getD (k).toNat (Pt.mk 0 (V3.mk 0 0 0)))).M = ((s.getD ((w64 (k - 1))).toNat (Pt.mk 0 (V3.mk 0 0 0)))).M)) && ((decide (((s.getD (k).toNat (Pt.mk 0 (V3.mk 0 0 0)))).X.x = ((s.getD ((w64 (k - 1))).toNat (Pt.mk 0 (V3.mk 0 0 0)))).X.x)) && ((decide (((s.getD (k).toNat (Pt.mk 0 (V3.mk 0 0 0)))).X.y = ((s.getD ((w64 (k - 1))).toNat (Pt.mk 0 (V3.mk 0 0 0)))).X.y)) && ((decide (((s.getD (k).toNat (Pt.mk 0 (V3.mk 0 0 0)))).X.z = ((s.getD ((w64 (k - 1))).toNat (Pt.mk 0 (V3.mk 0 0 0)))).X.z)) && true)))) = false →
 (cpOX s ((w64 (k + 1))) ∧
 ((decide (0 ≤ lnX s ((w64 (k + 1))))) = true ∧
 (decide (lnX s ((w64 (k + 1))) < lnX s k)) = true))))))) ∧
((decide (k < (s.length : Int))) = false →
Fin s)))))))) := by
  refine ⟨fun h2 => ?_, fun h2 => ⟨cp_init (by have := of_decide_eq_false h2; omega), fun k _ _ hK => ⟨fun hk => ?_, fun hk => ?_⟩⟩⟩
  · have h2 := of_decide_eq_true h2
    match s, h2 with
    | [], _ => exact hF
    | [x], _ => exact hF
    | x :: y :: r, h => simp at h; omega
  · have hk := of_decide_eq_true hk
    have hK1 : 1 ≤ k := hK.1
    have k1 : w64 (k - 1) = k - 1 := w64_id (by omega) (by omega)
    have k2 : w64 (k + 1) = k + 1 := w64_id (by omega) (by omega)
    rw [k1, k2, eqPc]
    refine ⟨⟨by omega, hk⟩, ⟨by omega, by omega⟩, fun he => ⟨⟨by show (0 : Int) ≤ k; omega, Int.le_of_lt hk, Int.le_refl _⟩, cpi_init hK hk (of_decide_eq_true he), fun t m _ _ j _ _ hI hl => ⟨fun hj => ?_, fun hj => ?_⟩⟩, fun he => ⟨cp_step hK hk (of_decide_eq_false he), decide_eq_true (by unfold lnX; omega), decide_eq_true (by unfold lnX; omega)⟩⟩
    · have hj := of_decide_eq_true hj
      have hj1 : 1 ≤ j := hI.2.1
      have hm1 : 1 ≤ m := hI.2.2.2.2.1
      have hm2 : m < k + j := hI.2.2.2.2.2.1
      have hl : t.length = s.length := hI.2.2.2.1
      have j1 : w64 (j - 1) = j - 1 := w64_id (by omega) (by omega)
      have j2 : w64 (j + 1) = j + 1 := w64_id (by omega) (by omega)
      have m2 : w64 (m + 1) = m + 1 := w64_id (by omega) (by omega)
      have a1 := cpi_at hI (m := k + j) (by omega) (by omega) (Pt.mk 0 (V3.mk 0 0 0))
      have a2 := cpi_at hI (m := k + (j - 1)) (by omega) (by omega) (Pt.mk 0 (V3.mk 0 0 0))
      rw [j1, j2, m2, eqPc, a1, a2, show k + (j - 1) = k + j - 1 by omega]
      refine ⟨⟨by omega, hj⟩, ⟨by omega, by omega⟩, fun hn => ⟨⟨by omega, hj⟩, ⟨by omega, by omega⟩, cpi_diff hI (by omega) rfl (by simpa using hn), decide_eq_true (by unfold lnY; omega), decide_eq_true (by unfold lnY; omega)⟩, fun hn => ⟨cpi_same hI (by omega) (by simpa using hn), decide_eq_true (by unfold lnY; omega), decide_eq_true (by unfold lnY; omega)⟩⟩
    · have hj := of_decide_eq_false hj
      have hm1 : 1 ≤ m := hI.2.2.2.2.1
      obtain ⟨q1, q2⟩ := cpi_end hI hj ((t.length : Int) - m) (Pt.mk 0 (V3.mk 0 0 0))
      refine ⟨⟨by show (0 : Int) ≤ m; omega, q2, Int.le_refl _⟩, trivial, ⟨Int.le_refl _, by show (0 : Int) ≤ m; omega, ?_⟩, by rw [q1]; exact hF⟩
      show m ≤ ((lput t m (lrep ((t.length : Int) - m) (Pt.mk 0 (V3.mk 0 0 0)))).length : Int)
      unfold lput lrep
      simp only [List.length_append, List.length_take, List.length_replicate, List.length_drop]
      omega
  · rw [← cp_end hK (of_decide_eq_false hk)]; exact hF
end Go.Fx
