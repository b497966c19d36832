/-
  SubFixed: whatever the input, the law returns true, and its input reads behind the call as it did. Conditions: none beyond the row's.
-/
import Derived.Test.YtkmbomopkojgfaaE19
import Derived.Test.YtkmbomopkojgfaaK18
import Derived.Test.YtkmbomopkojgfaaRows
namespace Go.Proofs.Ytkmbomopkojgfaa
open Go.ChangeShapes Go.WideShapes Go.ChangeAt Go.RowKit Go.Fx
set_option maxRecDepth 100000
theorem own : ownKnob Try.prog.godebug = none := by kernel_rfl
theorem laidOut : laidOutB Try.prog = true := by kernel_rfl

theorem subFixed_lifted (os : Os) (started : os.Started) (H : Type) (enc : TypeId × Value → H) :
    ReturnsInHanded {} Try.checked os 5 .any (Rows.subFixedSpec.pre6 enc Try.prog Try.f5 Rows.subFixedRow.domain false) (Rows.subFixedSpec.post enc Try.prog Try.f5 false true false false) := by
  refine returnsInHanded_of_change_sized (C := Try.checked) own started (by kernel_rfl) Try.func5
    (ChangeSpec.witness6 (enc := enc) (C := Try.checked) false ⟨#[], #[], []⟩ 8 (by kernel_rfl) (by kernel_rfl) (by kernel_rfl) (by kernel_rfl)) ?_
  intro W base args ds gs before hval0 hW hcnd hz _
  exact law_calls s_SubFixed (fun _ _ => trivial) (fun x vs W' own n0 h => res_true rfl h) laidOut (by
    rw [Try.params5]
    exact fun t ht => by cases ht) rfl (by kernel_rfl : Try.prog.underlying (Try.f5.resultTypes[0]!) = some .bool)
    (by rw [Try.params5]; exact trivial) rfl
    (fun ds hds => by
      rw [Try.params5] at hds
      match ds, hds with
      | [], _ => exact ⟨rfl, rfl, rfl⟩) hval0 hW hz
theorem subFixed_holds : Rows.SubFixedSaid :=
  OpenClaim.holds_of_wide 5 Try.f5 rfl rfl rfl rfl rfl rfl rfl ⟨rfl, rfl, rfl, rfl, rfl⟩ rfl rfl rfl rfl rfl (by kernel_rfl) Try.func5 (by kernel_rfl)
    (of_decide_eq_true (by kernel_rfl)) (by unfold Func.isWrapper; first | (rw [if_pos (by decide +kernel)]; kernel_rfl) | (rw [if_neg (by decide +kernel)]; exact ⟨rfl, rfl⟩))
    (fun os started H enc _ => subFixed_lifted os started H enc)
end Go.Proofs.Ytkmbomopkojgfaa
