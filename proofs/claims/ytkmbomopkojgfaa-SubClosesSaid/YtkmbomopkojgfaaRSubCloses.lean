/-
  SubCloses: whatever the input, the law returns true, and its input reads behind the call as it did. Conditions: none beyond the row's.
-/
import Derived.Test.YtkmbomopkojgfaaE19
import Derived.Test.YtkmbomopkojgfaaK14
import Derived.Test.YtkmbomopkojgfaaRows
namespace Go.Proofs.Ytkmbomopkojgfaa
open Go.ChangeShapes Go.WideShapes Go.ChangeAt Go.RowKit Go.Fx
set_option maxRecDepth 100000
theorem own : ownKnob Try.prog.godebug = none := by kernel_rfl
theorem laidOut : laidOutB Try.prog = true := by kernel_rfl

theorem subCloses_lifted (os : Os) (started : os.Started) (H : Type) (enc : TypeId × Value → H) :
    ReturnsInHanded {} Try.checked os 4 .any (Rows.subClosesSpec.pre6 enc Try.prog Try.f4 Rows.subClosesRow.domain false) (Rows.subClosesSpec.post enc Try.prog Try.f4 false true false false) := by
  refine returnsInHanded_of_change_sized (C := Try.checked) own started (by kernel_rfl) Try.func4
    (ChangeSpec.witness6 (enc := enc) (C := Try.checked) false ⟨#[], #[(.slice none 0 0), (.slice none 0 0)], []⟩ 8 (by kernel_rfl) (by kernel_rfl) (by kernel_rfl) (by kernel_rfl)) ?_
  intro W base args ds gs before hval0 hW hcnd hz _
  exact law_calls s_SubCloses (fun _ _ => trivial) (fun x vs W' own n0 h => res_true rfl h) laidOut (by
    rw [Try.params4]
    exact fun t ht => by
      simp only [List.mem_cons, List.not_mem_nil, or_false] at ht
      rcases ht with rfl | rfl <;> exact ⟨by kernel_rfl, of_decide_eq_true (by kernel_rfl)⟩) rfl (by kernel_rfl : Try.prog.underlying (Try.f4.resultTypes[0]!) = some .bool)
    (by rw [Try.params4]; exact ⟨⟨35, by kernel_rfl, by kernel_rfl, by kernel_rfl, by kernel_rfl⟩, ⟨35, by kernel_rfl, by kernel_rfl, by kernel_rfl, by kernel_rfl⟩, trivial⟩) rfl
    (fun ds hds => by
      rw [Try.params4] at hds
      match ds, hds with
      | [d1, d2], _ => exact ⟨rfl, rfl, rfl⟩) hval0 hW hz
theorem subCloses_holds : Rows.SubClosesSaid :=
  OpenClaim.holds_of_wide 4 Try.f4 rfl rfl rfl rfl rfl rfl rfl ⟨rfl, rfl, rfl, rfl, rfl⟩ rfl rfl rfl rfl rfl (by kernel_rfl) Try.func4 (by kernel_rfl)
    (of_decide_eq_true (by kernel_rfl)) (by unfold Func.isWrapper; first | (rw [if_pos (by decide +kernel)]; kernel_rfl) | (rw [if_neg (by decide +kernel)]; exact ⟨rfl, rfl⟩))
    (fun os started H enc _ => subCloses_lifted os started H enc)
end Go.Proofs.Ytkmbomopkojgfaa
