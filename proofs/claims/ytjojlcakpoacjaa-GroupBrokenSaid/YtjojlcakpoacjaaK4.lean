/-
  Contracts: Inverse.
-/
import Derived.Test.YtjojlcakpoacjaaK3
namespace Go.Fx
open Go Go.Proofs
set_option maxRecDepth 100000
set_option linter.unusedVariables false
set_option linter.unusedSimpArgs false
set_option linter.unusedSectionVars false
noncomputable def C_Inverse : Contract := { args := [.agg .mat], res := [.agg .mat, .int .i64], pre := fun _ => True, F := fun x => ((selM (uniE x.1) (wM (scaZ (detZ x.1) (adjZ x.1))) : M3), (uniE x.1 : Int), ()) }
def T_Inverse (m : M3) : Prop :=
  (True ∧
(((!(decide (uniE m = 0))) = true →
 ((M3.mk 0 0 0 0 0 0 0 0 0), (uniE m, ())) = (selM (uniE m) (wM (scaZ (detZ m) (adjZ m))), (uniE m, ()))) ∧
((!(decide (uniE m = 0))) = false →
(True ∧
((M3.mk ((w64 (((wM (adjZ m)).xx * selI (uniE m) (w64 (detZ m)))))) ((w64 (((wM (adjZ m)).xy * selI (uniE m) (w64 (detZ m)))))) ((w64 (((wM (adjZ m)).xz * selI (uniE m) (w64 (detZ m)))))) ((w64 (((wM (adjZ m)).yx * selI (uniE m) (w64 (detZ m)))))) ((w64 (((wM (adjZ m)).yy * selI (uniE m) (w64 (detZ m)))))) ((w64 (((wM (adjZ m)).yz * selI (uniE m) (w64 (detZ m)))))) ((w64 (((wM (adjZ m)).zx * selI (uniE m) (w64 (detZ m)))))) ((w64 (((wM (adjZ m)).zy * selI (uniE m) (w64 (detZ m)))))) ((w64 (((wM (adjZ m)).zz * selI (uniE m) (w64 (detZ m))))))), (0, ())) = (selM (uniE m) (wM (scaZ (detZ m) (adjZ m))), (uniE m, ()))))))
theorem r_Inverse (x : HL C_Inverse.args) : runs (env0 [(78, C_unit), (79, C_adjugate)] [] []) 400 59 C_Inverse x = T_Inverse x.1 := by kernel_rfl
theorem p_Inverse (m : M3) (h0 : (Sh.agg .mat).okA m) : T_Inverse m := by
  by_cases hu : uniE m = 0 <;> simp [T_Inverse, hu, selM, selI, wM, scaZ, adjZ, w64_add_l, w64_add_r, w64_sub_l, w64_sub_r, w64_mul_l, w64_mul_r, w64_w64]
theorem s_Inverse : Sound Try.prog 59 C_Inverse :=
  sound_of_eq (env0_ok (.cons s_unit (.cons s_adjugate (.nil)))) (fun x => T_Inverse x.1) r_Inverse fun x ok hp => p_Inverse x.1 ok.1
end Go.Fx
