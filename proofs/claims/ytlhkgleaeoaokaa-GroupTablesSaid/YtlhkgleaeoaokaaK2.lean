/-
  Contracts: Mul, det.
-/
import Derived.Test.YtlhkgleaeoaokaaK1
namespace Go.Fx
open Go Go.Proofs
set_option maxRecDepth 100000
set_option linter.unusedVariables false
set_option linter.unusedSimpArgs false
set_option linter.unusedSectionVars false
noncomputable def C_Mul : Contract := { args := [.agg .mat, .agg .mat], res := [.agg .mat, .int .i64], pre := fun _ => True, F := fun x => ((selM (err2 (errM x.1) (errM x.2.1)) (wM (mulZ x.1 x.2.1)) : M3), (err2 (errM x.1) (errM x.2.1) : Int), ()) }
def T_Mul (a : M3) (b : M3) : Prop :=
  (True ∧
(((!(decide (errM a = 0))) = true →
 ((M3.mk 0 0 0 0 0 0 0 0 0), (4, ())) = (selM (err2 (errM a) (errM b)) (wM (mulZ a b)), (err2 (errM a) (errM b), ()))) ∧
((!(decide (errM a = 0))) = false →
(True ∧
(((!(decide (errM b = 0))) = true →
 ((M3.mk 0 0 0 0 0 0 0 0 0), (4, ())) = (selM (err2 (errM a) (errM b)) (wM (mulZ a b)), (err2 (errM a) (errM b), ()))) ∧
((!(decide (errM b = 0))) = false →
(True ∧
(wM (mulZ a b), (0, ())) = (selM (err2 (errM a) (errM b)) (wM (mulZ a b)), (err2 (errM a) (errM b), ())))))))))
theorem r_Mul (x : HL C_Mul.args) : runs (env0 [(39, C_check), (61, C_mul)] [] []) 400 40 C_Mul x = T_Mul x.1 x.2.1 := by kernel_rfl
theorem p_Mul (a : M3) (b : M3) (h0 : (Sh.agg .mat).okA a) (h1 : (Sh.agg .mat).okA b) : T_Mul a b := by
  rcases errM_cases a with ha | ha <;> rcases errM_cases b with hb | hb <;> simp [T_Mul, ha, hb, err2, selM]
theorem s_Mul : Sound Try.prog 40 C_Mul :=
  sound_of_eq (env0_ok (.cons s_check (.cons s_mul (.nil)))) (fun x => T_Mul x.1 x.2.1) r_Mul fun x ok hp => p_Mul x.1 x.2.1 ok.1 ok.2.1
noncomputable def C_det : Contract := { args := [.agg .mat], res := [.int .i64], pre := fun _ => True, F := fun x => ((w64 (detZ x.1) : Int), ()) }
def T_det (m : M3) : Prop :=
  (True ∧
(True ∧
(True ∧
((w64 (((w64 (((w64 ((m.xx * w64 (cofZ m.yy m.zz m.yz m.zy)))) + (w64 ((m.xy * w64 (cofZ m.yz m.zx m.yx m.zz))))))) + (w64 ((m.xz * w64 (cofZ m.yx m.zy m.yy m.zx))))))), ()) = (w64 (detZ m), ()))))
theorem r_det (x : HL C_det.args) : runs (env0 [(73, C_cof00), (73, C_cof01), (73, C_cof02)] [] []) 400 71 C_det x = T_det x.1 := by kernel_rfl
theorem p_det (m : M3) (h0 : (Sh.agg .mat).okA m) : T_det m := by
  simp only [T_det, detZ, cofZ, Int.zero_add, and_self, w64_add_l, w64_add_r, w64_sub_l, w64_sub_r, w64_mul_l, w64_mul_r, w64_w64]
theorem s_det : Sound Try.prog 71 C_det :=
  sound_of_eq (env0_ok (.cons s_cof00 (.cons s_cof01 (.cons s_cof02 (.nil))))) (fun x => T_det x.1) r_det fun x ok hp => p_det x.1 ok.1
end Go.Fx
