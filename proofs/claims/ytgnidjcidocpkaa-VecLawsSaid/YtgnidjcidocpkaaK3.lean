/-
  Contracts: Left, Det, Trace, Transpose, Adjugate, unit.
-/
import Derived.Test.YtgnidjcidocpkaaK2
namespace Go.Fx
open Go Go.Proofs
set_option maxRecDepth 100000
set_option linter.unusedVariables false
noncomputable def C_Left : Contract := { args := [.agg .vec, .agg .mat], res := [.agg .vec, .int .i64], pre := fun _ => True, F := fun x => ((selV (err2 (errM x.2.1) (errV x.1)) (wV (appZ (traZ x.2.1) x.1)) : V3), (err2 (errM x.2.1) (errV x.1) : Int), ()) }
def T_Left (v : V3) (m : M3) : Prop :=
  (True ∧
(True ∧
(selV (err2 (errM (traZ m)) (errV v)) (wV (appZ (traZ m) v)), (err2 (errM (traZ m)) (errV v), ())) = (selV (err2 (errM m) (errV v)) (wV (appZ (traZ m) v)), (err2 (errM m) (errV v), ()))))
theorem r_Left (x : HL C_Left.args) : runs (env [(12, C_Apply), (40, C_transposed)] []) 400 13 C_Left x = T_Left x.1 x.2.1 := by kernel_rfl
theorem p_Left (v : V3) (m : M3) (h0 : (Sh.agg .vec).okA v) (h1 : (Sh.agg .mat).okA m) : T_Left v m := by
  exact ⟨trivial, trivial, by rw [errM_traZ]⟩
theorem s_Left : Sound Try.prog 13 C_Left :=
  sound_of_eq (env_ok (.cons s_Apply (.cons s_transposed (.nil)))) (fun x => T_Left x.1 x.2.1) r_Left fun x ok hp => p_Left x.1 x.2.1 ok.1 ok.2.1
noncomputable def C_Det : Contract := { args := [.agg .mat], res := [.int .i64, .int .i64], pre := fun _ => True, F := fun x => ((selI (errM x.1) (w64 (detZ x.1)) : Int), (errM x.1 : Int), ()) }
def T_Det (m : M3) : Prop :=
  (True ∧
(((!(decide (errM m = 0))) = true →
 (0, (errM m, ())) = (selI (errM m) (w64 (detZ m)), (errM m, ()))) ∧
((!(decide (errM m = 0))) = false →
(True ∧
(w64 (detZ m), (0, ())) = (selI (errM m) (w64 (detZ m)), (errM m, ()))))))
theorem r_Det (x : HL C_Det.args) : runs (env [(30, C_check), (41, C_det)] []) 400 22 C_Det x = T_Det x.1 := by kernel_rfl
theorem p_Det (m : M3) (h0 : (Sh.agg .mat).okA m) : T_Det m := by
  rcases errM_cases m with hm | hm <;> simp [T_Det, hm, selI, selM, trcZ, w64_add_l, w64_add_r, w64_sub_l, w64_sub_r, w64_mul_l, w64_mul_r, w64_w64]
theorem s_Det : Sound Try.prog 22 C_Det :=
  sound_of_eq (env_ok (.cons s_check (.cons s_det (.nil)))) (fun x => T_Det x.1) r_Det fun x ok hp => p_Det x.1 ok.1
noncomputable def C_Trace : Contract := { args := [.agg .mat], res := [.int .i64, .int .i64], pre := fun _ => True, F := fun x => ((selI (errM x.1) (w64 (trcZ x.1)) : Int), (errM x.1 : Int), ()) }
def T_Trace (m : M3) : Prop :=
  (True ∧
(((!(decide (errM m = 0))) = true →
 (0, (errM m, ())) = (selI (errM m) (w64 (trcZ m)), (errM m, ()))) ∧
((!(decide (errM m = 0))) = false →
((w64 (((w64 (m.xx + m.yy)) + m.zz))), (0, ())) = (selI (errM m) (w64 (trcZ m)), (errM m, ())))))
theorem r_Trace (x : HL C_Trace.args) : runs (env [(30, C_check)] []) 400 23 C_Trace x = T_Trace x.1 := by kernel_rfl
theorem p_Trace (m : M3) (h0 : (Sh.agg .mat).okA m) : T_Trace m := by
  rcases errM_cases m with hm | hm <;> simp [T_Trace, hm, selI, selM, trcZ, w64_add_l, w64_add_r, w64_sub_l, w64_sub_r, w64_mul_l, w64_mul_r, w64_w64]
theorem s_Trace : Sound Try.prog 23 C_Trace :=
  sound_of_eq (env_ok (.cons s_check (.nil))) (fun x => T_Trace x.1) r_Trace fun x ok hp => p_Trace x.1 ok.1
noncomputable def C_Transpose : Contract := { args := [.agg .mat], res := [.agg .mat, .int .i64], pre := fun _ => True, F := fun x => ((selM (errM x.1) (traZ x.1) : M3), (errM x.1 : Int), ()) }
def T_Transpose (m : M3) : Prop :=
  (True ∧
(((!(decide (errM m = 0))) = true →
 ((M3.mk 0 0 0 0 0 0 0 0 0), (errM m, ())) = (selM (errM m) (traZ m), (errM m, ()))) ∧
((!(decide (errM m = 0))) = false →
(True ∧
(traZ m, (0, ())) = (selM (errM m) (traZ m), (errM m, ()))))))
theorem r_Transpose (x : HL C_Transpose.args) : runs (env [(30, C_check), (40, C_transposed)] []) 400 24 C_Transpose x = T_Transpose x.1 := by kernel_rfl
theorem p_Transpose (m : M3) (h0 : (Sh.agg .mat).okA m) : T_Transpose m := by
  rcases errM_cases m with hm | hm <;> simp [T_Transpose, hm, selI, selM, trcZ, w64_add_l, w64_add_r, w64_sub_l, w64_sub_r, w64_mul_l, w64_mul_r, w64_w64]
theorem s_Transpose : Sound Try.prog 24 C_Transpose :=
  sound_of_eq (env_ok (.cons s_check (.cons s_transposed (.nil)))) (fun x => T_Transpose x.1) r_Transpose fun x ok hp => p_Transpose x.1 ok.1
noncomputable def C_Adjugate : Contract := { args := [.agg .mat], res := [.agg .mat, .int .i64], pre := fun _ => True, F := fun x => ((selM (errM x.1) (wM (adjZ x.1)) : M3), (errM x.1 : Int), ()) }
def T_Adjugate (m : M3) : Prop :=
  (True ∧
(((!(decide (errM m = 0))) = true →
 ((M3.mk 0 0 0 0 0 0 0 0 0), (errM m, ())) = (selM (errM m) (wM (adjZ m)), (errM m, ()))) ∧
((!(decide (errM m = 0))) = false →
(True ∧
(wM (adjZ m), (0, ())) = (selM (errM m) (wM (adjZ m)), (errM m, ()))))))
theorem r_Adjugate (x : HL C_Adjugate.args) : runs (env [(30, C_check), (43, C_adjugate)] []) 400 32 C_Adjugate x = T_Adjugate x.1 := by kernel_rfl
theorem p_Adjugate (m : M3) (h0 : (Sh.agg .mat).okA m) : T_Adjugate m := by
  rcases errM_cases m with hm | hm <;> simp [T_Adjugate, hm, selI, selM, trcZ, w64_add_l, w64_add_r, w64_sub_l, w64_sub_r, w64_mul_l, w64_mul_r, w64_w64]
theorem s_Adjugate : Sound Try.prog 32 C_Adjugate :=
  sound_of_eq (env_ok (.cons s_check (.cons s_adjugate (.nil)))) (fun x => T_Adjugate x.1) r_Adjugate fun x ok hp => p_Adjugate x.1 ok.1
noncomputable def C_unit : Contract := { args := [.agg .mat], res := [.int .i64, .int .i64], pre := fun _ => True, F := fun x => ((selI (uniE x.1) (w64 (detZ x.1)) : Int), (uniE x.1 : Int), ()) }
def T_unit (m : M3) : Prop :=
  (True ∧
(((!(decide (errM m = 0))) = true →
 (0, (errM m, ())) = (selI (uniE m) (w64 (detZ m)), (uniE m, ()))) ∧
((!(decide (errM m = 0))) = false →
(True ∧
(((!(decide (w64 (detZ m) = 1))) = true →
 (((!(decide (w64 (detZ m) = (-1)))) = true →
  (0, (3, ())) = (selI (uniE m) (w64 (detZ m)), (uniE m, ()))) ∧
 ((!(decide (w64 (detZ m) = (-1)))) = false →
 (w64 (detZ m), (0, ())) = (selI (uniE m) (w64 (detZ m)), (uniE m, ()))))) ∧
((!(decide (w64 (detZ m) = 1))) = false →
(w64 (detZ m), (0, ())) = (selI (uniE m) (w64 (detZ m)), (uniE m, ()))))))))
theorem r_unit (x : HL C_unit.args) : runs (env [(30, C_check), (41, C_det)] []) 400 42 C_unit x = T_unit x.1 := by kernel_rfl
theorem p_unit (m : M3) (h0 : (Sh.agg .mat).okA m) : T_unit m := by
  rcases errM_cases m with hm | hm <;> simp [T_unit, hm, uniE, selI] <;> grind
theorem s_unit : Sound Try.prog 42 C_unit :=
  sound_of_eq (env_ok (.cons s_check (.cons s_det (.nil)))) (fun x => T_unit x.1) r_unit fun x ok hp => p_unit x.1 ok.1
end Go.Fx
