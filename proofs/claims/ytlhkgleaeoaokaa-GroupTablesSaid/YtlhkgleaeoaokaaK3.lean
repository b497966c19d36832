/-
  Contracts: Det.
-/
import Derived.Test.YtlhkgleaeoaokaaK2
namespace Go.Fx
open Go Go.Proofs
set_option maxRecDepth 100000
set_option linter.unusedVariables false
set_option linter.unusedSimpArgs false
set_option linter.unusedSectionVars false
noncomputable def C_Det : Contract := { args := [.agg .mat], res := [.int .i64, .int .i64], pre := fun _ => True, F := fun x => ((selI (errM x.1) (w64 (detZ x.1)) : Int), (errM x.1 : Int), ()) }
def T_Det (m : M3) : Prop :=
  (True ∧
(((!(decide (errM m = 0))) = true →
 (0, (errM m, ())) = (selI (errM m) (w64 (detZ m)), (errM m, ()))) ∧
((!(decide (errM m = 0))) = false →
(True ∧
(w64 (detZ m), (0, ())) = (selI (errM m) (w64 (detZ m)), (errM m, ()))))))
theorem r_Det (x : HL C_Det.args) : runs (env0 [(39, C_check), (71, C_det)] [] []) 400 59 C_Det x = T_Det x.1 := by kernel_rfl
theorem p_Det (m : M3) (h0 : (Sh.agg .mat).okA m) : T_Det m := by
  rcases errM_cases m with hm | hm <;> simp [T_Det, hm, selI, selM, trcZ, w64_add_l, w64_add_r, w64_sub_l, w64_sub_r, w64_mul_l, w64_mul_r, w64_w64]
theorem s_Det : Sound Try.prog 59 C_Det :=
  sound_of_eq (env0_ok (.cons s_check (.cons s_det (.nil)))) (fun x => T_Det x.1) r_Det fun x ok hp => p_Det x.1 ok.1
end Go.Fx
