/-
  Contracts: lparts.
-/
import Derived.Test.YtkmbomopkojgfaaK11
import Derived.Test.YtkmbomopkojgfaaHc
namespace Go.Fx
open Go Go.Proofs
set_option maxRecDepth 100000
set_option linter.unusedVariables false
set_option linter.unusedSimpArgs false
set_option linter.unusedSectionVars false
noncomputable def C_lparts : Contract := { args := [.lists .int, .int .i64], res := [.bool], pre := fun x => paP x.1 x.2.1, F := fun x => ((true : Bool), ()) }
def T_lparts (l : List (List Int)) (n : Int) : Prop :=
  ((leP 0 n ∧
 lfit 8 ((lrep n (0 : Int)))) ∧
(paO l n ((lrep n (0 : Int))) 0 ∧
∀ z2 : List Int,
∀ z3 : Int,
((decide ((-9223372036854775808) ≤ z3)) = true →
((decide (z3 ≤ 9223372036854775807)) = true →
(paO l n z2 z3 →
(eqP (z2.length : Int) ((((lrep n (0 : Int))).length : Int)) →
(((decide (z3 < (l.length : Int))) = true →
 (inB l z3 ∧
 (((decide ((((l.getD (z3).toNat [])).length : Int) = 0)) = true →
  (false, ()) = (true, ())) ∧
 ((decide ((((l.getD (z3).toNat [])).length : Int) = 0)) = false →
 (((decide (0 < z3)) = true →
  (inB ((l.getD (z3).toNat [])) 0 ∧
  (inB l ((w64 (z3 - 1))) ∧
  (inB ((l.getD ((w64 (z3 - 1))).toNat [])) 0 ∧
  (((decide ((((l.getD (z3).toNat [])).getD 0 0) ≤ (((l.getD ((w64 (z3 - 1))).toNat [])).getD 0 0))) = true →
   (false, ()) = (true, ())) ∧
  ((decide ((((l.getD (z3).toNat [])).getD 0 0) ≤ (((l.getD ((w64 (z3 - 1))).toNat [])).getD 0 0))) = false →
  (paI l n z3 z2 0 ∧
  ∀ z12 : List Int,
  ∀ z13 : Int,
  ((decide ((-9223372036854775808) ≤ z13)) = true →
  ((decide (z13 ≤ 9223372036854775807)) = true →
  (paI l n z3 z12 z13 →
  (eqP (z12.length : Int) (z2.length : Int) →
  (((decide (z13 < (((l.getD (z3).toNat [])).length : Int))) = true →
   (inB ((l.getD (z3).toNat [])) z13 ∧
   (((decide ((((l.getD (z3).toNat [])).getD (z13).toNat 0) < 0)) = true →
    (false, ()) = (true, ())) ∧
   ((decide ((((l.getD (z3).toNat [])).getD (z13).toNat 0) < 0)) = false →
   (((decide (n ≤ (((l.getD (z3).toNat [])).getD (z13).toNat 0))) = true →
    (false, ()) = (true, ())) ∧
   ((decide (n ≤ (((l.getD (z3).toNat [])).getD (z13).toNat 0))) = false →
   (inB z12 ((((l.getD (z3).toNat [])).getD (z13).toNat 0)) ∧
   (((decide (0 < (z12.getD ((((l.getD (z3).toNat [])).getD (z13).toNat 0)).toNat 0))) = true →
    (false, ()) = (true, ())) ∧
   ((decide (0 < (z12.getD ((((l.getD (z3).toNat [])).getD (z13).toNat 0)).toNat 0))) = false →
   (((decide (0 < z13)) = true →
    (inB ((l.getD (z3).toNat [])) ((w64 (z13 - 1))) ∧
    (((decide ((((l.getD (z3).toNat [])).getD (z13).toNat 0) ≤ (((l.getD (z3).toNat [])).getD ((w64 (z13 - 1))).toNat 0))) = true →
     (false, ()) = (true, ())) ∧
    ((decide ((((l.getD (z3).toNat [])).getD (z13).toNat 0) ≤ (((l.getD (z3).toNat [])).getD ((w64 (z13 - 1))).toNat 0))) = false →
    (inB z12 ((((l.getD (z3).toNat [])).getD (z13).toNat 0)) ∧
    (inB z12 ((((l.getD (z3).toNat [])).getD (z13).toNat 0)) ∧
    (paI l n z3 (lset z12 ((((l.getD (z3).toNat [])).getD (z13).toNat 0)) ((w64 (((z12.getD ((((l.getD (z3).toNat [])).getD (z13).toNat 0)).toNat 0) + 1))))) ((w64 (z13 + 1))) ∧
    ((decide (0 ≤ paMu l z3 ((w64 (z13 + 1))))) = true ∧
    (decide (paMu l z3 ((w64 (z13 + 1))) < paMu l z3 z13)) = true)))))))) ∧
   ((decide (0 < z13)) = false →
   (inB z12 ((((l.getD (z3).toNat [])).getD (z13).toNat 0)) ∧
   (inB z12 ((((l.getD (z3).toNat [])).getD (z13).toNat 0)) ∧
   (paI l n z3 (lset z12 ((((l.getD (z3).toNat [])).getD (z13).toNat 0)) ((w64 (((z12.getD ((((l.getD (z3).toNat [])).getD (z13).toNat 0)).toNat 0) + 1))))) ((w64 (z13 + 1))) ∧
   ((decide (0 ≤ paMu l z3 ((w64 (z13 + 1))))) = true ∧
   (decide (paMu l z3 ((w64 (z13 + 1))) < paMu l z3 z13)) = true))))))))))))))) ∧
  ((decide (z13 < (((l.getD (z3).toNat [])).length : Int))) = false →
  (paO l n z12 ((w64 (z3 + 1))) ∧
  ((decide (0 ≤ liMu l ((w64 (z3 + 1))))) = true ∧
  (decide (liMu l ((w64 (z3 + 1))) < liMu l z3)) = true))))))))))))))) ∧
 ((decide (0 < z3)) = false →
 (paI l n z3 z2 0 ∧
 ∀ z11 : List Int,
 ∀ z12 : Int,
 ((decide ((-9223372036854775808) ≤ z12)) = true →
 ((decide (z12 ≤ 9223372036854775807)) = true →
 (paI l n z3 z11 z12 →
 (eqP (z11.length : Int) (z2.length : Int) →
 (((decide (z12 < (((l.getD (z3).toNat [])).length : Int))) = true →
  (inB ((l.getD (z3).toNat [])) z12 ∧
  (((decide ((((l.getD (z3).toNat [])).getD (z12).toNat 0) < 0)) = true →
   (false, ()) = (true, ())) ∧
  ((decide ((((l.getD (z3).toNat [])).getD (z12).toNat 0) < 0)) = false →
  (((decide (n ≤ (((l.getD (z3).toNat [])).getD (z12).toNat 0))) = true →
   (false, ()) = (true, ())) ∧
  ((decide (n ≤ (((l.getD (z3).toNat [])).getD (z12).toNat 0))) = false →
  (inB z11 ((((l.getD (z3).toNat [])).getD (z12).toNat 0)) ∧
  (((decide (0 < (z11.getD ((((l.getD (z3).toNat [])).getD (z12).toNat 0)).toNat 0))) = true →
   (false, ()) = (true, ())) ∧
  ((decide (0 < (z11.getD ((((l.getD (z3).toNat [])).getD (z12).toNat 0)).toNat 0))) = false →
  (((decide (0 < z12)) = true →
   (inB ((l.getD (z3).toNat [])) ((w64 (z12 - 1))) ∧
   (((decide ((((l.getD (z3).toNat [])).getD (z12).toNat 0) ≤ (((l.getD (z3).toNat [])).getD ((w64 (z12 - 1))).toNat 0))) = true →
    (false, ()) = (true, ())) ∧
   ((decide ((((l.getD (z3).toNat [])).getD (z12).toNat 0) ≤ (((l.getD (z3).toNat [])).getD ((w64 (z12 - 1))).toNat 0))) = false →
   (inB z11 ((((l.getD (z3).toNat [])).getD (z12).toNat 0)) ∧
   (inB z11 ((((l.getD (z3).toNat [])).getD (z12).toNat 0)) ∧
   (paI l n z3 (lset z11 ((((l.getD (z3).toNat [])).getD (z12).toNat 0)) ((w64 (((z11.getD ((((l.getD (z3).toNat [])).getD (z12).toNat 0)).toNat 0) + 1))))) ((w64 (z12 + 1))) ∧
   ((decide (0 ≤ paMu l z3 ((w64 (z12 + 1))))) = true ∧
   (decide (paMu l z3 ((w64 (z12 + 1))) < paMu l z3 z12)) = true)))))))) ∧
  ((decide (0 < z12)) = false →
  (inB z11 ((((l.getD (z3).toNat [])).getD (z12).toNat 0)) ∧
  (inB z11 ((((l.getD (z3).toNat [])).getD (z12).toNat 0)) ∧
  (paI l n z3 (lset z11 ((((l.getD (z3).toNat [])).getD (z12).toNat 0)) ((w64 (((z11.getD ((((l.getD (z3).toNat [])).getD (z12).toNat 0)).toNat 0) + 1))))) ((w64 (z12 + 1))) ∧
  ((decide (0 ≤ paMu l z3 ((w64 (z12 + 1))))) = true ∧
  (decide (paMu l z3 ((w64 (z12 + 1))) < paMu l z3 z12)) = true))))))))))))))) ∧
 ((decide (z12 < (((l.getD (z3).toNat [])).length : Int))) = false →
 (paO l n z11 ((w64 (z3 + 1))) ∧
 ((decide (0 ≤ liMu l ((w64 (z3 + 1))))) = true ∧
 (decide (liMu l ((w64 (z3 + 1))) < liMu l z3)) = true))))))))))))))) ∧
((decide (z3 < (l.length : Int))) = false →
(rgP n 0 ∧
∀ z9 : Int,
((decide ((-9223372036854775808) ≤ z9)) = true →
((decide (z9 ≤ 9223372036854775807)) = true →
(rgP n z9 →
(((decide (z9 < (z2.length : Int))) = true →
 (inB z2 z9 ∧
 (((!(decide ((z2.getD (z9).toNat 0) = 1))) = true →
  (false, ()) = (true, ())) ∧
 ((!(decide ((z2.getD (z9).toNat 0) = 1))) = false →
 (rgP n ((w64 (z9 + 1))) ∧
 ((decide (0 ≤ rgMu n ((w64 (z9 + 1))))) = true ∧
 (decide (rgMu n ((w64 (z9 + 1))) < rgMu n z9)) = true)))))) ∧
((decide (z9 < (z2.length : Int))) = false →
(true, ()) = (true, ())))))))))))))))
theorem r_lparts (x : HL C_lparts.args) : runs (env0 [] [(10, 3, { fix := [], vars := [(.itmp 5, .list .int), (.tmp 16, .int .i64)], inv := fun y v => paO x.1 x.2.1 v.1 v.2.1, mu := fun y v => liMu x.1 v.2.1 }), (10, 8, { fix := [(.tmp 16, .int .i64)], vars := [(.itmp 5, .list .int), (.tmp 43, .int .i64)], inv := fun y v => paI x.1 x.2.1 y.1 v.1 v.2.1, mu := fun y v => paMu x.1 y.1 v.2.1 }), (10, 16, { fix := [], vars := [(.tmp 85, .int .i64)], inv := fun y v => rgP x.2.1 v.1, mu := fun y v => rgMu x.2.1 v.1 })] []) 1500 10 C_lparts x = T_lparts x.1 x.2.1 := by kernel_rfl
theorem p_lparts (l : List (List Int)) (n : Int) (h0 : (Sh.lists .int).okA l) (h1 : (Sh.int .i64).okA n) (hp : paP l n) : T_lparts l n := by
  unfold T_lparts
  have hn := hp.1
  refine ⟨⟨hn.1, by show (lrep n (0 : Int)).length * 8 ≤ 140737488355328; simp [lrep]; omega⟩, pa_0 hp, fun u i _ _ hO hul => ⟨fun hi => ?_, fun hi => ⟨⟨Int.le_refl _, hn.1⟩, fun k _ _ hK => ⟨fun hk => ?_, fun _ => by trivial⟩⟩⟩⟩
  · have hi := of_decide_eq_true hi
    have i0 := hO.1.1
    obtain ⟨c1, c2, c3, c4⟩ := pa_at hp i0 hi
    refine ⟨⟨i0, hi⟩, fun hz => absurd (of_decide_eq_true hz) (by have := c2.2; omega), fun _ => ⟨fun hi0 => ?_, fun _ => ?_⟩⟩
    · obtain ⟨d1, d2, d3, d4⟩ := pa_head hp (of_decide_eq_true hi0) hi
      rw [d1]
      refine ⟨c2, d2, d3, fun h => absurd (of_decide_eq_true h) (by omega), fun _ => ?_⟩
      refine ⟨pa_in hp hO, fun u2 j _ _ hI _ => ⟨fun hj => ?_, fun hj => pa_next hp i0 hi hI (of_decide_eq_false hj)⟩⟩
      have hj := of_decide_eq_true hj
      obtain ⟨s1, s2, s3, s4, s5, s6, s7⟩ := pa_step hp i0 hi hI hj rfl
      refine ⟨s1, fun h => absurd (of_decide_eq_true h) (by omega), fun _ => ⟨fun h => absurd (of_decide_eq_true h) (by omega), fun _ => ⟨s3, fun h => absurd (of_decide_eq_true h) (by omega), fun _ => ⟨fun hj0 => ?_, fun _ => ⟨s3, s3, s6, s7⟩⟩⟩⟩⟩
      obtain ⟨t1, t2, t3⟩ := s5 (of_decide_eq_true hj0)
      rw [t1]
      exact ⟨t2, fun h => absurd (of_decide_eq_true h) (by omega), fun _ => ⟨s3, s3, s6, s7⟩⟩
    · refine ⟨pa_in hp hO, fun u2 j _ _ hI _ => ⟨fun hj => ?_, fun hj => pa_next hp i0 hi hI (of_decide_eq_false hj)⟩⟩
      have hj := of_decide_eq_true hj
      obtain ⟨s1, s2, s3, s4, s5, s6, s7⟩ := pa_step hp i0 hi hI hj rfl
      refine ⟨s1, fun h => absurd (of_decide_eq_true h) (by omega), fun _ => ⟨fun h => absurd (of_decide_eq_true h) (by omega), fun _ => ⟨s3, fun h => absurd (of_decide_eq_true h) (by omega), fun _ => ⟨fun hj0 => ?_, fun _ => ⟨s3, s3, s6, s7⟩⟩⟩⟩⟩
      obtain ⟨t1, t2, t3⟩ := s5 (of_decide_eq_true hj0)
      rw [t1]
      exact ⟨t2, fun h => absurd (of_decide_eq_true h) (by omega), fun _ => ⟨s3, s3, s6, s7⟩⟩
  · have hk := of_decide_eq_true hk
    rw [pa_len hp hO] at hk
    obtain ⟨s1, s2⟩ := pa_end hp hO (of_decide_eq_false hi) hK.1 hk
    exact ⟨s1, fun h => absurd h (by rw [s2]; decide), fun _ => rg_next (by omega) hK hk⟩
theorem s_lparts : Sound Try.prog 10 C_lparts :=
  sound_of_eqs (fun x => env0 [] [(10, 3, { fix := [], vars := [(.itmp 5, .list .int), (.tmp 16, .int .i64)], inv := fun y v => paO x.1 x.2.1 v.1 v.2.1, mu := fun y v => liMu x.1 v.2.1 }), (10, 8, { fix := [(.tmp 16, .int .i64)], vars := [(.itmp 5, .list .int), (.tmp 43, .int .i64)], inv := fun y v => paI x.1 x.2.1 y.1 v.1 v.2.1, mu := fun y v => paMu x.1 y.1 v.2.1 }), (10, 16, { fix := [], vars := [(.tmp 85, .int .i64)], inv := fun y v => rgP x.2.1 v.1, mu := fun y v => rgMu x.2.1 v.1 })] []) (fun _ => rfl) (fun _ => env0_ok (.nil)) (fun x => T_lparts x.1 x.2.1) r_lparts fun x ok hp => p_lparts x.1 x.2.1 ok.1 ok.2.1 hp
end Go.Fx
