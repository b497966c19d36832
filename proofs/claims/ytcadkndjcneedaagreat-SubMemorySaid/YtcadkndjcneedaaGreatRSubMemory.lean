/-
  SubMemory: whatever the input, the law returns true, and its input reads behind the call as it did. Conditions: none beyond the row's.
-/
import Derived.Test.YtcadkndjcneedaaGreatE19
import Derived.Test.YtcadkndjcneedaaGreatK19
import Derived.Test.YtcadkndjcneedaaGreatRows
namespace Go.Proofs.YtcadkndjcneedaaGreat
open Go.ChangeShapes Go.WideShapes Go.ChangeAt Go.RowKit Go.Fx
set_option maxRecDepth 100000
theorem own : ownKnob Tryz.prog.godebug = none := by kernel_rfl
theorem laidOut : laidOutB Tryz.prog = true := by kernel_rfl

theorem subMemory_lifted (os : Os) (started : os.Started) (H : Type) (enc : TypeId × Value → H) :
    ReturnsInHanded {} Tryz.checked os 3 .any (Rows.subMemorySpec.pre6 enc Tryz.prog Tryz.f3 Rows.subMemoryRow.domain false) (Rows.subMemorySpec.post enc Tryz.prog Tryz.f3 false true false false) := by
  refine returnsInHanded_of_change_sized (C := Tryz.checked) own started (by kernel_rfl) Tryz.func3
    (ChangeSpec.witness6 (enc := enc) (C := Tryz.checked) false ⟨#[], #[(.slice none 0 0), (.slice none 0 0)], []⟩ 8 (by kernel_rfl) (by kernel_rfl) (by kernel_rfl) (by kernel_rfl)) ?_
  intro W base args ds gs before hval0 hW hcnd hz _
  exact law_calls s_SubMemory (fun _ h => ⟨h.1, h.2.1⟩) (fun x vs W' own n0 h => res_true rfl h) laidOut (by
    rw [Tryz.params3]
    exact fun t ht => by
      simp only [List.mem_cons, List.not_mem_nil, or_false] at ht
      rcases ht with rfl | rfl <;> exact ⟨by kernel_rfl, of_decide_eq_true (by kernel_rfl)⟩) rfl (by kernel_rfl : Tryz.prog.underlying (Tryz.f3.resultTypes[0]!) = some .bool)
    (by rw [Tryz.params3]; exact ⟨⟨44, by kernel_rfl, by kernel_rfl, by kernel_rfl, by kernel_rfl⟩, ⟨44, by kernel_rfl, by kernel_rfl, by kernel_rfl, by kernel_rfl⟩, trivial⟩) rfl
    (fun ds hds => by
      rw [Tryz.params3] at hds
      match ds, hds with
      | [d1, d2], _ => exact ⟨rfl, rfl, rfl⟩) hval0 hW hz
theorem subMemory_holds : Rows.SubMemorySaid :=
  OpenClaim.holds_of_wide 3 Tryz.f3 rfl rfl rfl rfl rfl rfl rfl ⟨rfl, rfl, rfl, rfl, rfl⟩ rfl rfl rfl rfl rfl (by kernel_rfl) Tryz.func3 (by kernel_rfl)
    (of_decide_eq_true (by kernel_rfl)) (by unfold Func.isWrapper; first | (rw [if_pos (by decide +kernel)]; kernel_rfl) | (rw [if_neg (by decide +kernel)]; exact ⟨rfl, rfl⟩))
    (fun os started H enc _ => subMemory_lifted os started H enc)
end Go.Proofs.YtcadkndjcneedaaGreat
