/-
  Contracts: Inverse, Scale, rForm, rInverse, DocInverse.
-/
import Derived.Test.YtkchandelfmoaaaK4
namespace Go.Fx
open Go Go.Proofs
set_option maxRecDepth 100000
set_option linter.unusedVariables false
noncomputable def C_Inverse : Contract := { args := [.agg .mat], res := [.agg .mat, .int .i64], pre := fun _ => True, F := fun x => ((selM (uniE x.1) (wM (scaZ (detZ x.1) (adjZ x.1))) : M3), (uniE x.1 : Int), ()) }
def T_Inverse (m : M3) : Prop :=
  (True ∧
(((!(decide (uniE m = 0))) = true →
 ((M3.mk 0 0 0 0 0 0 0 0 0), (uniE m, ())) = (selM (uniE m) (wM (scaZ (detZ m) (adjZ m))), (uniE m, ()))) ∧
((!(decide (uniE m = 0))) = false →
(True ∧
((M3.mk ((w64 (((wM (adjZ m)).xx * selI (uniE m) (w64 (detZ m)))))) ((w64 (((wM (adjZ m)).xy * selI (uniE m) (w64 (detZ m)))))) ((w64 (((wM (adjZ m)).xz * selI (uniE m) (w64 (detZ m)))))) ((w64 (((wM (adjZ m)).yx * selI (uniE m) (w64 (detZ m)))))) ((w64 (((wM (adjZ m)).yy * selI (uniE m) (w64 (detZ m)))))) ((w64 (((wM (adjZ m)).yz * selI (uniE m) (w64 (detZ m)))))) ((w64 (((wM (adjZ m)).zx * selI (uniE m) (w64 (detZ m)))))) ((w64 (((wM (adjZ m)).zy * selI (uniE m) (w64 (detZ m)))))) ((w64 (((wM (adjZ m)).zz * selI (uniE m) (w64 (detZ m))))))), (0, ())) = (selM (uniE m) (wM (scaZ (detZ m) (adjZ m))), (uniE m, ()))))))
theorem r_Inverse (x : HL C_Inverse.args) : runs (env [(100, C_unit), (101, C_adjugate)] []) 400 79 C_Inverse x = T_Inverse x.1 := by kernel_rfl
theorem p_Inverse (m : M3) (h0 : (Sh.agg .mat).okA m) : T_Inverse m := by
  by_cases hu : uniE m = 0 <;> simp [T_Inverse, hu, selM, selI, wM, scaZ, adjZ, w64_add_l, w64_add_r, w64_sub_l, w64_sub_r, w64_mul_l, w64_mul_r, w64_w64]
theorem s_Inverse : Sound Try.prog 79 C_Inverse :=
  sound_of_eq (env_ok (.cons s_unit (.cons s_adjugate (.nil)))) (fun x => T_Inverse x.1) r_Inverse fun x ok hp => p_Inverse x.1 ok.1
noncomputable def C_Scale : Contract := { args := [.int .i64, .agg .mat], res := [.agg .mat], pre := fun _ => True, F := fun x => ((wM (scaZ x.1 x.2.1) : M3), ()) }
def T_Scale (n : Int) (m : M3) : Prop :=
  ((M3.mk ((w64 (m.xx * n))) ((w64 (m.xy * n))) ((w64 (m.xz * n))) ((w64 (m.yx * n))) ((w64 (m.yy * n))) ((w64 (m.yz * n))) ((w64 (m.zx * n))) ((w64 (m.zy * n))) ((w64 (m.zz * n)))), ()) = (wM (scaZ n m), ())
theorem r_Scale (x : HL C_Scale.args) : runs (env [] []) 400 102 C_Scale x = T_Scale x.1 x.2.1 := by kernel_rfl
theorem p_Scale (n : Int) (m : M3) (h0 : (Sh.int .i64).okA n) (h1 : (Sh.agg .mat).okA m) : T_Scale n m := by
  rfl
theorem s_Scale : Sound Try.prog 102 C_Scale :=
  sound_of_eq (env_ok (.nil)) (fun x => T_Scale x.1 x.2.1) r_Scale fun x ok hp => p_Scale x.1 x.2.1 ok.1 ok.2.1
noncomputable def C_rForm : Contract := { args := [.agg .mat], res := [.int .i64], pre := fun _ => True, F := fun x => ((uniE x.1 : Int), ()) }
def T_rForm (m : M3) : Prop :=
  (True ∧
(((!(decide (errM m = 0))) = true →
 (4, ()) = (uniE m, ())) ∧
((!(decide (errM m = 0))) = false →
(True ∧
(((!(decide (w64 (detZ m) = 1))) = true →
 (((!(decide (w64 (detZ m) = (-1)))) = true →
  (3, ()) = (uniE m, ())) ∧
 ((!(decide (w64 (detZ m) = (-1)))) = false →
 (0, ()) = (uniE m, ())))) ∧
((!(decide (w64 (detZ m) = 1))) = false →
(0, ()) = (uniE m, ())))))))
theorem r_rForm (x : HL C_rForm.args) : runs (env [(54, C_rMat), (86, C_rDet)] []) 400 51 C_rForm x = T_rForm x.1 := by kernel_rfl
theorem p_rForm (m : M3) (h0 : (Sh.agg .mat).okA m) : T_rForm m := by
  rcases errM_cases m with hm | hm <;> simp [T_rForm, hm, uniE] <;> grind
theorem s_rForm : Sound Try.prog 51 C_rForm :=
  sound_of_eq (env_ok (.cons s_rMat (.cons s_rDet (.nil)))) (fun x => T_rForm x.1) r_rForm fun x ok hp => p_rForm x.1 ok.1
noncomputable def C_rInverse : Contract := { args := [.agg .mat], res := [.agg .mat], pre := fun _ => True, F := fun x => ((wM (scaZ (detZ x.1) (adjZ x.1)) : M3), ()) }
def T_rInverse (m : M3) : Prop :=
  (True ∧
(True ∧
(True ∧
(wM (scaZ (w64 (detZ m)) (wM (adjZ m))), ()) = (wM (scaZ (detZ m) (adjZ m)), ()))))
theorem r_rInverse (x : HL C_rInverse.args) : runs (env [(102, C_Scale), (86, C_rDet), (103, C_rAdjugate)] []) 400 80 C_rInverse x = T_rInverse x.1 := by kernel_rfl
theorem p_rInverse (m : M3) (h0 : (Sh.agg .mat).okA m) : T_rInverse m := by
  simp only [T_rInverse, wM, scaZ, and_self, w64_add_l, w64_add_r, w64_sub_l, w64_sub_r, w64_mul_l, w64_mul_r, w64_w64]
theorem s_rInverse : Sound Try.prog 80 C_rInverse :=
  sound_of_eq (env_ok (.cons s_Scale (.cons s_rDet (.cons s_rAdjugate (.nil))))) (fun x => T_rInverse x.1) r_rInverse fun x ok hp => p_rInverse x.1 ok.1
noncomputable def C_DocInverse : Contract := { args := [.agg .mat], res := [.agg .mat, .int .i64], pre := fun _ => True, F := fun x => ((selM (uniE x.1) (wM (scaZ (detZ x.1) (adjZ x.1))) : M3), (uniE x.1 : Int), ()) }
def T_DocInverse (m : M3) : Prop :=
  (True ∧
(((!(decide (uniE m = 0))) = true →
 ((M3.mk 0 0 0 0 0 0 0 0 0), (uniE m, ())) = (selM (uniE m) (wM (scaZ (detZ m) (adjZ m))), (uniE m, ()))) ∧
((!(decide (uniE m = 0))) = false →
(True ∧
(wM (scaZ (detZ m) (adjZ m)), (0, ())) = (selM (uniE m) (wM (scaZ (detZ m) (adjZ m))), (uniE m, ()))))))
theorem r_DocInverse (x : HL C_DocInverse.args) : runs (env [(51, C_rForm), (80, C_rInverse)] []) 400 42 C_DocInverse x = T_DocInverse x.1 := by kernel_rfl
theorem p_DocInverse (m : M3) (h0 : (Sh.agg .mat).okA m) : T_DocInverse m := by
  by_cases hu : uniE m = 0 <;> simp [T_DocInverse, hu, selM]
theorem s_DocInverse : Sound Try.prog 42 C_DocInverse :=
  sound_of_eq (env_ok (.cons s_rForm (.cons s_rInverse (.nil)))) (fun x => T_DocInverse x.1) r_DocInverse fun x ok hp => p_DocInverse x.1 ok.1
end Go.Fx
