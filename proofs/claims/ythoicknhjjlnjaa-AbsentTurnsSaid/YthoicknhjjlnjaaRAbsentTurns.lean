/-
  AbsentTurns: whatever the input, the law returns true, and its input reads behind the call as it did. Conditions: none beyond the row's.
-/
import Derived.Test.YthoicknhjjlnjaaE19
import Derived.Test.YthoicknhjjlnjaaK9
import Derived.Test.YthoicknhjjlnjaaRows
namespace Go.Proofs.Ythoicknhjjlnjaa
open Go.ChangeShapes Go.WideShapes Go.ChangeAt Go.RowKit Go.Fx
set_option maxRecDepth 100000
theorem own : ownKnob Try.prog.godebug = none := by kernel_rfl
theorem laidOut : laidOutB Try.prog = true := by kernel_rfl
noncomputable def zV : Value := .agg (Fl.vals .vec (Fl.dec .vec [])).toArray
theorem absentTurns_lifted (os : Os) (started : os.Started) (H : Type) (enc : TypeId × Value → H) :
    ReturnsInHanded {} Try.checked os 3 .any (Rows.absentTurnsSpec.pre6 enc Try.prog Try.f3 Rows.absentTurnsRow.domain false) (Rows.absentTurnsSpec.post enc Try.prog Try.f3 false true false false) := by
  refine returnsInHanded_of_change_sized (C := Try.checked) own started (by kernel_rfl) Try.func3
    (ChangeSpec.witness6 (enc := enc) (C := Try.checked) false ⟨#[], #[(.slice none 0 0), zV], []⟩ 8 (by kernel_rfl) (by kernel_rfl) (by kernel_rfl) (by kernel_rfl)) ?_
  intro W base args ds gs before hval0 hW hcnd hz _
  exact law_calls s_AbsentTurns (fun _ _ => trivial) (fun x vs W' own n0 h => res_true rfl h) laidOut (by
    rw [Try.params3]
    exact fun t ht => by
      simp only [List.mem_cons, List.not_mem_nil, or_false] at ht
      rcases ht with rfl | rfl <;> exact ⟨by kernel_rfl, of_decide_eq_true (by kernel_rfl)⟩) rfl (by kernel_rfl : Try.prog.underlying (Try.f3.resultTypes[0]!) = some .bool)
    (by rw [Try.params3]; exact ⟨⟨40, by kernel_rfl, by kernel_rfl, by kernel_rfl, by kernel_rfl⟩, ⟨by kernel_rfl, by kernel_rfl⟩, trivial⟩) rfl
    (fun ds hds => by
      rw [Try.params3] at hds
      match ds, hds with
      | [d1, d2], _ => exact ⟨rfl, rfl, rfl⟩) hval0 hW hz
theorem absentTurns_holds : Rows.AbsentTurnsSaid :=
  OpenClaim.holds_of_wide 3 Try.f3 rfl rfl rfl rfl rfl rfl rfl ⟨rfl, rfl, rfl, rfl, rfl⟩ rfl rfl rfl rfl rfl (by kernel_rfl) Try.func3 (by kernel_rfl)
    (of_decide_eq_true (by kernel_rfl)) (by unfold Func.isWrapper; first | (rw [if_pos (by decide +kernel)]; kernel_rfl) | (rw [if_neg (by decide +kernel)]; exact ⟨rfl, rfl⟩))
    (fun os started H enc _ => absentTurns_lifted os started H enc)
end Go.Proofs.Ythoicknhjjlnjaa
