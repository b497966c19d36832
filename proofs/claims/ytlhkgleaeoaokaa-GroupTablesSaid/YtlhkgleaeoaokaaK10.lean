/-
  Contracts: gInverses.
-/
import Derived.Test.YtlhkgleaeoaokaaK9
namespace Go.Fx
open Go Go.Proofs
set_option maxRecDepth 100000
set_option linter.unusedVariables false
set_option linter.unusedSimpArgs false
set_option linter.unusedSectionVars false
noncomputable def C_gInverses : Contract := { args := [.list .op], res := [.list .int, .int .i64], pre := fun _ => True, F := fun x => ((invL x.1 : List Int), (chkE x.1 : Int), ()) }
def T_gInverses (g : List Op3) : Prop :=
  (True ∧
∀ z1 : List (List Int),
(z1 = tabL g →
∀ z3 : Int,
(z3 = chkE g →
(((!(decide (z3 = 0))) = true →
 ([], (z3, ())) = (invL g, (chkE g, ()))) ∧
((!(decide (z3 = 0))) = false →
(True ∧
(True ∧
∀ z6 : Int,
(z6 = idxO g oneO →
(ivInv z1 z6 [] 0 ∧
∀ z8 : List Int,
∀ z9 : Int,
((decide ((-9223372036854775808) ≤ z9)) = true →
((decide (z9 ≤ 9223372036854775807)) = true →
(ivInv z1 z6 z8 z9 →
(lfit 8 z8 →
(((decide (z9 < (z1.length : Int))) = true →
 (inB z1 z9 ∧
 (True ∧
 ∀ z15 : Int,
 (z15 = idxI ((z1.getD (z9).toNat [])) z6 →
 (lfit 8 (lapp z8 [z15]) ∧
 (ivInv z1 z6 (lapp z8 [z15]) ((w64 (z9 + 1))) ∧
 ((decide (0 ≤ liMu z1 ((w64 (z9 + 1))))) = true ∧
 (decide (liMu z1 ((w64 (z9 + 1))) < liMu z1 z9)) = true))))))) ∧
((decide (z9 < (z1.length : Int))) = false →
(z8, (0, ())) = (invL g, (chkE g, ())))))))))))))))))
theorem r_gInverses (x : HL C_gInverses.args) : runs (env0 [(5, C_gTable.hid), (22, C_opOne), (21, C_gIndexO.hid), (23, C_gIndexI.hid)] [(9, 7, { fix := [(.tmp 21, .lists .int), (.tmp 6, .int .i64)], vars := [(.tmp 7, .list .int), (.tmp 23, .int .i64)], inv := fun y v => ivInv y.1 y.2.1 v.1 v.2.1, mu := fun y v => liMu y.1 v.2.1 })] []) 400 9 C_gInverses x = T_gInverses x.1 := by kernel_rfl
theorem p_gInverses (g : List Op3) (h0 : (Sh.list .op).okA g) : T_gInverses g := by
  refine ⟨trivial, fun t ht e he => ⟨fun h => ?_, fun h => ?_⟩⟩
  · have hne : chkE g ≠ 0 := by rw [← he]; simpa using h
    unfold invL; rw [if_neg hne, he]
  have hz : chkE g = 0 := by rw [← he]; simpa using h
  have h192 := chk_len hz
  have htl : t = g.map (rowO g) := by rw [ht]; unfold tabL; rw [if_pos hz]
  have hlen : t.length = g.length := by rw [htl]; simp
  refine ⟨trivial, trivial, fun x hx => ⟨⟨by omega, by omega, by simp⟩, fun l i _ _ hI hfit => ⟨fun hi => ?_, fun hi => ?_⟩⟩⟩
  · have hi := of_decide_eq_true hi
    have i0 := hI.1
    have e1 : w64 (i + 1) = i + 1 := w64_id (by omega) (by omega)
    refine ⟨⟨i0, hi⟩, trivial, fun k hk => ⟨?_, ?_⟩⟩
    · show (l ++ [k]).length * 8 ≤ 140737488355328
      rw [hI.2.2]; simp; omega
    · rw [e1]
      refine ⟨⟨by omega, by omega, ?_⟩, decide_eq_true (by unfold liMu; omega), decide_eq_true (by unfold liMu; omega)⟩
      rw [take_succ i0 hi [], List.map_append, ← hI.2.2, hk]
      rfl
  · unfold invL
    rw [if_pos hz, hI.2.2, take_end (of_decide_eq_false hi), htl, List.map_map, hx, hz]
    rfl
theorem s_gInverses : Sound Try.prog 9 C_gInverses :=
  sound_of_eq (env0_ok (.cons s_gTable.hid (.cons s_opOne (.cons s_gIndexO.hid (.cons s_gIndexI.hid (.nil)))))) (fun x => T_gInverses x.1) r_gInverses fun x ok hp => p_gInverses x.1 ok.1
end Go.Fx
