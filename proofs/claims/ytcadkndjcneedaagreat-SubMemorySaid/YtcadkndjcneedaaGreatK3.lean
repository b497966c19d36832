/-
  Contracts: gmaps.
-/
import Derived.Test.YtcadkndjcneedaaGreatK2
namespace Go.Fx
open Go Go.Proofs
set_option maxRecDepth 100000
set_option linter.unusedVariables false
set_option linter.unusedSimpArgs false
set_option linter.unusedSectionVars false
noncomputable def C_gmaps : Contract := { args := [.list .op], res := [.int .i64], pre := fun _ => True, F := fun x => ((gE x.1 : Int), ()) }
def T_gmaps (l : List Op3) : Prop :=
  (((decide (192 < (l.length : Int))) = true →
 (2, ()) = (gE l, ())) ∧
((decide (192 < (l.length : Int))) = false →
(chInv l 0 0 ∧
∀ z2 : Int,
((decide ((-9223372036854775808) ≤ z2)) = true →
((decide (z2 ≤ 9223372036854775807)) = true →
∀ z5 : Int,
((decide ((-9223372036854775808) ≤ z5)) = true →
((decide (z5 ≤ 9223372036854775807)) = true →
(chInv l z2 z5 →
(((decide (z2 < (l.length : Int))) = true →
 (inB l z2 ∧
 (True ∧
 (True ∧
 (((decide (mulE oneO (((l.getD (z2).toNat zerO))) = 3)) = true →
  (mulE oneO (((l.getD (z2).toNat zerO))), ()) = (gE l, ())) ∧
 ((decide (mulE oneO (((l.getD (z2).toNat zerO))) = 3)) = false →
 (((decide (mulE oneO (((l.getD (z2).toNat zerO))) = 4)) = true →
  (chInv l ((w64 (z2 + 1))) (mulE oneO (((l.getD (z2).toNat zerO)))) ∧
  ((decide (0 ≤ opMu l ((w64 (z2 + 1))))) = true ∧
  (decide (opMu l ((w64 (z2 + 1))) < opMu l z2)) = true))) ∧
 ((decide (mulE oneO (((l.getD (z2).toNat zerO))) = 4)) = false →
 (chInv l ((w64 (z2 + 1))) z5 ∧
 ((decide (0 ≤ opMu l ((w64 (z2 + 1))))) = true ∧
 (decide (opMu l ((w64 (z2 + 1))) < opMu l z2)) = true)))))))))) ∧
((decide (z2 < (l.length : Int))) = false →
(z5, ()) = (gE l, ())))))))))))
theorem r_gmaps (x : HL C_gmaps.args) : runs (env0 [(19, C_opOne), (48, C_opMul.hid)] [(47, 5, { fix := [(.tmp 11, .list .op)], vars := [(.tmp 13, .int .i64), (.tmp 3, .int .i64)], inv := fun y v => chInv y.1 v.1 v.2.1, mu := fun y v => opMu y.1 v.1 })] []) 400 47 C_gmaps x = T_gmaps x.1 := by kernel_rfl
theorem p_gmaps (l : List Op3) (h0 : (Sh.list .op).okA l) : T_gmaps l := by
  have hb : l.length * 96 ≤ 140737488355328 := Nat.le_trans h0.2 (by decide)
  refine ⟨fun h => ?_, fun h => ⟨⟨by omega, by omega, by simp, rfl⟩, fun i _ _ w _ _ hI => ⟨fun hi => ?_, fun hi => ?_⟩⟩⟩
  · unfold gE; rw [if_pos (of_decide_eq_true h)]
  · have hg : gE l = errL l := by unfold gE; rw [if_neg (of_decide_eq_false h)]
    have hi := of_decide_eq_true hi
    have i0 := hI.1
    rw [hg, mulE_one]
    refine ⟨⟨i0, hi⟩, trivial, trivial, fun h3 => ?_, fun h3 => ⟨fun h4 => ?_, fun h4 => ?_⟩⟩
    · rw [of_decide_eq_true h3]; exact ch_bad i0 hi (of_decide_eq_true h3)
    · exact ch_next hb hI hi (of_decide_eq_false h3) (by rw [if_pos (of_decide_eq_true h4)]; exact of_decide_eq_true h4)
    · exact ch_next hb hI hi (of_decide_eq_false h3) (by rw [if_neg (of_decide_eq_false h4)])
  · have hg : gE l = errL l := by unfold gE; rw [if_neg (of_decide_eq_false h)]
    rw [hg]
    exact ch_end hI (of_decide_eq_false hi)
theorem s_gmaps : Sound Tryz.prog 47 C_gmaps :=
  sound_of_eq (env0_ok (.cons s_opOne (.cons s_opMul.hid (.nil)))) (fun x => T_gmaps x.1) r_gmaps fun x ok hp => p_gmaps x.1 ok.1
end Go.Fx
