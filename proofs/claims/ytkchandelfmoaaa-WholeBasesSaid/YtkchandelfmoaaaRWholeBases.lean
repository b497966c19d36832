/-
  WholeBases: whatever the input, the law returns true, and its input reads behind the call as it did. Conditions: none beyond the row's.
-/
import Derived.Test.YtkchandelfmoaaaE19
import Derived.Test.YtkchandelfmoaaaK10
import Derived.Test.YtkchandelfmoaaaRows
namespace Go.Proofs.Ytkchandelfmoaaa
open Go.ChangeShapes Go.WideShapes Go.ChangeAt Go.RowKit Go.Fx
set_option maxRecDepth 100000
theorem own : ownKnob Try.prog.godebug = none := by kernel_rfl
theorem laidOut : laidOutB Try.prog = true := by kernel_rfl
noncomputable def z6 : Value := .agg (Fl.vals .v16 (Fl.dec .v16 [])).toArray
noncomputable def z8 : Value := .agg (Fl.vals .v8 (Fl.dec .v8 [])).toArray
noncomputable def zS : Value := .agg (Fl.vals .seed (Fl.dec .seed [])).toArray
theorem wholeBases_lifted (os : Os) (started : os.Started) (H : Type) (enc : TypeId × Value → H) :
    ReturnsInHanded {} Try.checked os 9 .any (Rows.wholeBasesSpec.pre6 enc Try.prog Try.f9 Rows.wholeBasesRow.domain false) (Rows.wholeBasesSpec.post enc Try.prog Try.f9 false true false false) := by
  refine returnsInHanded_of_change_sized (C := Try.checked) own started (by kernel_rfl) Try.func9
    (ChangeSpec.witness6 (enc := enc) (C := Try.checked) false ⟨#[], #[(.slice none 0 0), zS, zS, z6, z8], []⟩ 8 (by kernel_rfl) (by kernel_rfl) (by kernel_rfl) (by kernel_rfl)) ?_
  intro W base args ds gs before hval0 hW hcnd hz _
  exact law_calls s_WholeBases (fun _ _ => trivial) (fun x vs W' own n0 h => res_true rfl h) laidOut (by
    rw [Try.params9]
    exact fun t ht => by
      simp only [List.mem_cons, List.not_mem_nil, or_false] at ht
      rcases ht with rfl | rfl | rfl | rfl | rfl <;> exact ⟨by kernel_rfl, of_decide_eq_true (by kernel_rfl)⟩) rfl (by kernel_rfl : Try.prog.underlying (Try.f9.resultTypes[0]!) = some .bool)
    (by rw [Try.params9]; exact ⟨⟨72, by kernel_rfl, by kernel_rfl, by kernel_rfl, by kernel_rfl⟩, ⟨by kernel_rfl, by kernel_rfl⟩, ⟨by kernel_rfl, by kernel_rfl⟩, ⟨by kernel_rfl, by kernel_rfl⟩, ⟨by kernel_rfl, by kernel_rfl⟩, trivial⟩) rfl
    (fun ds hds => by
      rw [Try.params9] at hds
      match ds, hds with
      | [d1, d2, d3, d4, d5], _ => exact ⟨rfl, rfl, rfl⟩) hval0 hW hz
theorem wholeBases_holds : Rows.WholeBasesSaid :=
  OpenClaim.holds_of_wide 9 Try.f9 rfl rfl rfl rfl rfl rfl rfl ⟨rfl, rfl, rfl, rfl, rfl⟩ rfl rfl rfl rfl rfl (by kernel_rfl) Try.func9 (by kernel_rfl)
    (of_decide_eq_true (by kernel_rfl)) (by unfold Func.isWrapper; first | (rw [if_pos (by decide +kernel)]; kernel_rfl) | (rw [if_neg (by decide +kernel)]; exact ⟨rfl, rfl⟩))
    (fun os started H enc _ => wholeBases_lifted os started H enc)
end Go.Proofs.Ytkchandelfmoaaa
