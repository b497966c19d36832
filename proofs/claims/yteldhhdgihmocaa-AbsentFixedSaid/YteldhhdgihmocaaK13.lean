/-
  Contracts: r14DocSort.
-/
import Derived.Test.YteldhhdgihmocaaK12
namespace Go.Fx
open Go Go.Proofs
set_option maxRecDepth 100000
set_option linter.unusedVariables false
set_option linter.unusedSimpArgs false
set_option linter.unusedSectionVars false
noncomputable def C_r14DocSort : Contract := { args := [.list .op, .list .vec], res := [.list .vec, .list .vec, .int .i64], pre := fun _ => True, F := fun x => ((srP x.1 x.2.1 : List V3), (srA x.1 x.2.1 : List V3), (abE x.1 x.2.1 : Int), ()) }
def T_r14DocSort (g : List Op3) (l : List V3) : Prop :=
  (True ∧
∀ z2 : Int,
(z2 = chkE g →
((((decide (4096 < (l.length : Int))) = true →
  (((decide (z2 = 0)) = true →
   2 = dsE g l) ∧
  ((decide (z2 = 0)) = false →
  (((decide (2 < z2)) = true →
   2 = dsE g l) ∧
  ((decide (2 < z2)) = false →
  z2 = dsE g l))))) ∧
 ((decide (4096 < (l.length : Int))) = false →
 z2 = dsE g l)) ∧
∀ z4 : Int,
((decide ((-9223372036854775808) ≤ z4)) = true →
((decide (z4 ≤ 9223372036854775807)) = true →
(z4 = dsE g l →
(alInv l 0 ∧
∀ z8 : Int,
((decide ((-9223372036854775808) ≤ z8)) = true →
((decide (z8 ≤ 9223372036854775807)) = true →
(alInv l z8 →
(((decide (z8 < (l.length : Int))) = true →
 (inB l z8 ∧
 (True ∧
 ∀ z13 : Int,
 (z13 = ixE ((l.getD (z8).toNat (V3.mk 0 0 0))) →
 (((!(decide (z13 = 0))) = true →
  ([], ([], (1, ()))) = (srP g l, (srA g l, (abE g l, ())))) ∧
 ((!(decide (z13 = 0))) = false →
 (alInv l ((w64 (z8 + 1))) ∧
 ((decide (0 ≤ lnV l ((w64 (z8 + 1))))) = true ∧
 (decide (lnV l ((w64 (z8 + 1))) < lnV l z8)) = true)))))))) ∧
((decide (z8 < (l.length : Int))) = false →
(((!(decide (z4 = 0))) = true →
 ([], ([], (z4, ()))) = (srP g l, (srA g l, (abE g l, ())))) ∧
((!(decide (z4 = 0))) = false →
(srInv g l [] [] 0 ∧
∀ z14 : List V3,
∀ z15 : List V3,
∀ z16 : Int,
((decide ((-9223372036854775808) ≤ z16)) = true →
((decide (z16 ≤ 9223372036854775807)) = true →
(srInv g l z14 z15 z16 →
(lfit 24 z14 →
(lfit 24 z15 →
(((decide (z16 < (l.length : Int))) = true →
 (inB l z16 ∧
 (True ∧
 ∀ z23 : Bool,
 (z23 = whyB g ((l.getD (z16).toNat (V3.mk 0 0 0))) →
 ((z23 = true →
  (lfit 24 (lapp z15 ([(l.getD (z16).toNat (V3.mk 0 0 0))])) ∧
  (srInv g l z14 (lapp z15 ([(l.getD (z16).toNat (V3.mk 0 0 0))])) ((w64 (z16 + 1))) ∧
  ((decide (0 ≤ lnV l ((w64 (z16 + 1))))) = true ∧
  (decide (lnV l ((w64 (z16 + 1))) < lnV l z16)) = true)))) ∧
 (z23 = false →
 (lfit 24 (lapp z14 ([(l.getD (z16).toNat (V3.mk 0 0 0))])) ∧
 (srInv g l (lapp z14 ([(l.getD (z16).toNat (V3.mk 0 0 0))])) z15 ((w64 (z16 + 1))) ∧
 ((decide (0 ≤ lnV l ((w64 (z16 + 1))))) = true ∧
 (decide (lnV l ((w64 (z16 + 1))) < lnV l z16)) = true))))))))) ∧
((decide (z16 < (l.length : Int))) = false →
(z14, (z15, (0, ()))) = (srP g l, (srA g l, (abE g l, ())))))))))))))))))))))))))
theorem r_r14DocSort (x : HL C_r14DocSort.args) : runs (env0 [(39, C_r5DocCheck.hid), (40, C_r14Index.hid), (33, C_r14Absent.hid)] [(18, 5, { fix := [(.tmp 27, .list .vec)], vars := [(.tmp 29, .int .i64)], inv := fun y v => alInv y.1 v.1, mu := fun y v => lnV y.1 v.1 }), (18, 14, { fix := [(.tmp 0, .list .op), (.tmp 40, .list .vec)], vars := [(.tmp 10, .list .vec), (.tmp 11, .list .vec), (.tmp 42, .int .i64)], inv := fun y v => srInv y.1 y.2.1 v.1 v.2.1 v.2.2.1, mu := fun y v => lnV y.2.1 v.2.2.1 })] [(18, 4, { fix := [(.tmp 0, .list .op), (.tmp 1, .list .vec)], vars := [(.tmp 7, .int .i64)], inv := fun y v => v.1 = dsE y.1 y.2.1, mu := fun y v => 0 })]) 400 18 C_r14DocSort x = T_r14DocSort x.1 x.2.1 := by kernel_rfl
theorem p_r14DocSort (g : List Op3) (l : List V3) (h0 : (Sh.list .op).okA g) (h1 : (Sh.list .vec).okA l) : T_r14DocSort g l := by
  have hb : l.length * 24 ≤ 140737488355328 := h1.2
  unfold T_r14DocSort
  refine ⟨trivial, fun c hc => ⟨?_, fun e _ _ he => ⟨⟨by omega, by omega, fun h hh => by cases hh⟩, fun i _ _ hA => ⟨fun hi => ?_, fun hi => ?_⟩⟩⟩⟩
  · unfold dsE
    rw [← hc]
    refine ⟨fun q => ⟨fun r => by rw [if_pos ⟨of_decide_eq_true q, .inl (of_decide_eq_true r)⟩], fun r => ⟨fun s => by rw [if_pos ⟨of_decide_eq_true q, .inr (of_decide_eq_true s)⟩], fun s => by rw [if_neg (fun t => t.2.elim (of_decide_eq_false r) (of_decide_eq_false s))]⟩⟩, fun q => by rw [if_neg (fun t => of_decide_eq_false q t.1)]⟩
  · have hi := of_decide_eq_true hi
    have i0 := hA.1
    have e1 : w64 (i + 1) = i + 1 := w64_id (by omega) (by omega)
    rw [e1]
    refine ⟨⟨i0, hi⟩, trivial, fun x hx => ⟨fun q => ?_, fun q => ?_⟩⟩
    · have hk : okH (l.getD i.toNat (V3.mk 0 0 0)) = false := by
        cases hk : okH (l.getD i.toNat (V3.mk 0 0 0)) with
        | false => rfl
        | true => rw [hx] at q; unfold ixE at q; rw [if_pos hk] at q; cases q
      unfold srP srA
      rw [al_bad i0 hi hk]; rfl
    · have hk : okH (l.getD i.toNat (V3.mk 0 0 0)) = true := by
        cases hk : okH (l.getD i.toNat (V3.mk 0 0 0)) with
        | true => rfl
        | false => rw [hx] at q; unfold ixE at q; rw [if_neg (by rw [hk]; decide)] at q; cases q
      exact ⟨al_next hA hi hk, decide_eq_true (by unfold lnV; omega), decide_eq_true (by unfold lnV; omega)⟩
  · have hab : abE g l = e := by
      rw [al_end hA (of_decide_eq_false hi), he]
      unfold dsE
      rcases chkE_vals g with k | k | k | k | k <;> rw [k] <;> by_cases c : 4096 < (l.length : Int) <;> simp [c]
    refine ⟨fun q => ?_, fun q => ⟨⟨by omega, by omega, rfl, rfl⟩, fun p a i _ _ hI _ _ => ⟨fun hi => ?_, fun hi => ?_⟩⟩⟩
    · have hne : abE g l ≠ 0 := by rw [hab]; simpa using q
      unfold srP srA; rw [if_neg hne, if_neg hne, hab]
    · have hi := of_decide_eq_true hi
      have i0 := hI.1
      have n1 := (sr_next hI hi (V3.mk 0 0 0)).1
      have n2 := (sr_next hI hi (V3.mk 0 0 0)).2
      have e1 : w64 (i + 1) = i + 1 := w64_id (by omega) (by omega)
      have m1 : decide (0 ≤ lnV l (w64 (i + 1))) = true := decide_eq_true (by unfold lnV; omega)
      have m2 : decide (lnV l (w64 (i + 1)) < lnV l i) = true := decide_eq_true (by unfold lnV; omega)
      obtain ⟨l1, l2⟩ := sr_len hI
      have f1 : lfit 24 (lapp p [l.getD i.toNat (V3.mk 0 0 0)]) := by show (p ++ [_]).length * 24 ≤ 140737488355328; rw [List.length_append]; simp only [List.length_singleton]; omega
      have f2 : lfit 24 (lapp a [l.getD i.toNat (V3.mk 0 0 0)]) := by show (a ++ [_]).length * 24 ≤ 140737488355328; rw [List.length_append]; simp only [List.length_singleton]; omega
      refine ⟨⟨i0, hi⟩, trivial, fun b hb' => ⟨fun c => ⟨f2, ?_, m1, m2⟩, fun c => ⟨f1, ?_, m1, m2⟩⟩⟩
      · rw [e1]; exact n1 (by rw [← hb']; exact c)
      · rw [e1]; exact n2 (by rw [← hb']; exact c)
    · have hz : abE g l = 0 := by rw [hab]; simpa using q
      unfold srP srA
      rw [if_pos hz, if_pos hz, hz, hI.2.2.1, hI.2.2.2, take_end (of_decide_eq_false hi)]
theorem s_r14DocSort : Sound Try.prog 18 C_r14DocSort :=
  sound_of_eq (env0_ok (.cons s_r5DocCheck.hid (.cons s_r14Index.hid (.cons s_r14Absent.hid (.nil))))) (fun x => T_r14DocSort x.1 x.2.1) r_r14DocSort fun x ok hp => p_r14DocSort x.1 x.2.1 ok.1 ok.2.1
end Go.Fx
