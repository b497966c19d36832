/-
  Contracts: rMat, rMul, rApply, rDet, rAdjugate, Scale, rForm, rInverse.
-/
import Derived.Test.YtkchandelfmoaaaGreatK7
namespace Go.Fx
open Go Go.Proofs
set_option maxRecDepth 100000
set_option linter.unusedVariables false
set_option linter.unusedSimpArgs false
set_option linter.unusedSectionVars false
noncomputable def C_rMat : Contract := { args := [.agg .mat], res := [.int .i64], pre := fun _ => True, F := fun x => ((errM x.1 : Int), ()) }
def T_rMat (m : M3) : Prop :=
  (((decide (m.xx < (-1000))) = true →
 (4, ()) = (errM m, ())) ∧
((decide (m.xx < (-1000))) = false →
(((decide (1000 < m.xx)) = true →
 (4, ()) = (errM m, ())) ∧
((decide (1000 < m.xx)) = false →
(((decide (m.xy < (-1000))) = true →
 (4, ()) = (errM m, ())) ∧
((decide (m.xy < (-1000))) = false →
(((decide (1000 < m.xy)) = true →
 (4, ()) = (errM m, ())) ∧
((decide (1000 < m.xy)) = false →
(((decide (m.xz < (-1000))) = true →
 (4, ()) = (errM m, ())) ∧
((decide (m.xz < (-1000))) = false →
(((decide (1000 < m.xz)) = true →
 (4, ()) = (errM m, ())) ∧
((decide (1000 < m.xz)) = false →
(((decide (m.yx < (-1000))) = true →
 (4, ()) = (errM m, ())) ∧
((decide (m.yx < (-1000))) = false →
(((decide (1000 < m.yx)) = true →
 (4, ()) = (errM m, ())) ∧
((decide (1000 < m.yx)) = false →
(((decide (m.yy < (-1000))) = true →
 (4, ()) = (errM m, ())) ∧
((decide (m.yy < (-1000))) = false →
(((decide (1000 < m.yy)) = true →
 (4, ()) = (errM m, ())) ∧
((decide (1000 < m.yy)) = false →
(((decide (m.yz < (-1000))) = true →
 (4, ()) = (errM m, ())) ∧
((decide (m.yz < (-1000))) = false →
(((decide (1000 < m.yz)) = true →
 (4, ()) = (errM m, ())) ∧
((decide (1000 < m.yz)) = false →
(((decide (m.zx < (-1000))) = true →
 (4, ()) = (errM m, ())) ∧
((decide (m.zx < (-1000))) = false →
(((decide (1000 < m.zx)) = true →
 (4, ()) = (errM m, ())) ∧
((decide (1000 < m.zx)) = false →
(((decide (m.zy < (-1000))) = true →
 (4, ()) = (errM m, ())) ∧
((decide (m.zy < (-1000))) = false →
(((decide (1000 < m.zy)) = true →
 (4, ()) = (errM m, ())) ∧
((decide (1000 < m.zy)) = false →
(((decide (m.zz < (-1000))) = true →
 (4, ()) = (errM m, ())) ∧
((decide (m.zz < (-1000))) = false →
(((decide (1000 < m.zz)) = true →
 (4, ()) = (errM m, ())) ∧
((decide (1000 < m.zz)) = false →
(0, ()) = (errM m, ())))))))))))))))))))))))))))))))))))))
theorem r_rMat (x : HL C_rMat.args) : runs (env0 [] [] []) 400 28 C_rMat x = T_rMat x.1 := by kernel_rfl
theorem p_rMat (m : M3) (h0 : (Sh.agg .mat).okA m) : T_rMat m := by
  simp only [T_rMat, decide_eq_true_eq, decide_eq_false_iff_not]
  repeat' (first | apply And.intro | intro _ | exact trivial)
  all_goals simp only [errM, okM, inE, Bool.and_eq_true, decide_eq_true_eq]
  all_goals first | rw [if_neg (by omega)] | rw [if_pos (by omega)]
theorem s_rMat : Sound Tryz.prog 28 C_rMat :=
  sound_of_eq (env0_ok (.nil)) (fun x => T_rMat x.1) r_rMat fun x ok hp => p_rMat x.1 ok.1
noncomputable def C_rMul : Contract := { args := [.agg .mat, .agg .mat], res := [.agg .mat], pre := fun _ => True, F := fun x => ((wM (mulZ x.1 x.2.1) : M3), ()) }
def T_rMul (a : M3) (b : M3) : Prop :=
  ((M3.mk ((w64 (((w64 (((0 + (w64 (a.xx * b.xx))) + (w64 (a.xy * b.yx))))) + (w64 (a.xz * b.zx)))))) ((w64 (((w64 (((0 + (w64 (a.xx * b.xy))) + (w64 (a.xy * b.yy))))) + (w64 (a.xz * b.zy)))))) ((w64 (((w64 (((0 + (w64 (a.xx * b.xz))) + (w64 (a.xy * b.yz))))) + (w64 (a.xz * b.zz)))))) ((w64 (((w64 (((0 + (w64 (a.yx * b.xx))) + (w64 (a.yy * b.yx))))) + (w64 (a.yz * b.zx)))))) ((w64 (((w64 (((0 + (w64 (a.yx * b.xy))) + (w64 (a.yy * b.yy))))) + (w64 (a.yz * b.zy)))))) ((w64 (((w64 (((0 + (w64 (a.yx * b.xz))) + (w64 (a.yy * b.yz))))) + (w64 (a.yz * b.zz)))))) ((w64 (((w64 (((0 + (w64 (a.zx * b.xx))) + (w64 (a.zy * b.yx))))) + (w64 (a.zz * b.zx)))))) ((w64 (((w64 (((0 + (w64 (a.zx * b.xy))) + (w64 (a.zy * b.yy))))) + (w64 (a.zz * b.zy)))))) ((w64 (((w64 (((0 + (w64 (a.zx * b.xz))) + (w64 (a.zy * b.yz))))) + (w64 (a.zz * b.zz))))))), ()) = (wM (mulZ a b), ())
theorem r_rMul (x : HL C_rMul.args) : runs (env0 [] [] []) 400 56 C_rMul x = T_rMul x.1 x.2.1 := by kernel_rfl
theorem p_rMul (a : M3) (b : M3) (h0 : (Sh.agg .mat).okA a) (h1 : (Sh.agg .mat).okA b) : T_rMul a b := by
  simp only [T_rMul, wM, mulZ, Int.zero_add, and_self, w64_add_l, w64_add_r, w64_sub_l, w64_sub_r, w64_mul_l, w64_mul_r, w64_w64]
theorem s_rMul : Sound Tryz.prog 56 C_rMul :=
  sound_of_eq (env0_ok (.nil)) (fun x => T_rMul x.1 x.2.1) r_rMul fun x ok hp => p_rMul x.1 x.2.1 ok.1 ok.2.1
noncomputable def C_rApply : Contract := { args := [.agg .mat, .agg .vec], res := [.agg .vec], pre := fun _ => True, F := fun x => ((wV (appZ x.1 x.2.1) : V3), ()) }
def T_rApply (m : M3) (v : V3) : Prop :=
  ((V3.mk ((w64 (((w64 (((0 + (w64 (m.xx * v.x))) + (w64 (m.xy * v.y))))) + (w64 (m.xz * v.z)))))) ((w64 (((w64 (((0 + (w64 (m.yx * v.x))) + (w64 (m.yy * v.y))))) + (w64 (m.yz * v.z)))))) ((w64 (((w64 (((0 + (w64 (m.zx * v.x))) + (w64 (m.zy * v.y))))) + (w64 (m.zz * v.z))))))), ()) = (wV (appZ m v), ())
theorem r_rApply (x : HL C_rApply.args) : runs (env0 [] [] []) 400 59 C_rApply x = T_rApply x.1 x.2.1 := by kernel_rfl
theorem p_rApply (m : M3) (v : V3) (h0 : (Sh.agg .mat).okA m) (h1 : (Sh.agg .vec).okA v) : T_rApply m v := by
  simp only [T_rApply, wV, appZ, Int.zero_add, and_self, w64_add_l, w64_add_r, w64_sub_l, w64_sub_r, w64_mul_l, w64_mul_r, w64_w64]
theorem s_rApply : Sound Tryz.prog 59 C_rApply :=
  sound_of_eq (env0_ok (.nil)) (fun x => T_rApply x.1 x.2.1) r_rApply fun x ok hp => p_rApply x.1 x.2.1 ok.1 ok.2.1
noncomputable def C_rDet : Contract := { args := [.agg .mat], res := [.int .i64], pre := fun _ => True, F := fun x => ((w64 (detZ x.1) : Int), ()) }
def T_rDet (m : M3) : Prop :=
  ((w64 (((w64 (((0 + (w64 (((w64 (((w64 (m.xx * m.yy)) * m.zz))) - (w64 (((w64 (m.xx * m.yz)) * m.zy))))))) + (w64 (((w64 (((w64 (m.xy * m.yz)) * m.zx))) - (w64 (((w64 (m.xy * m.yx)) * m.zz))))))))) + (w64 (((w64 (((w64 (m.xz * m.yx)) * m.zy))) - (w64 (((w64 (m.xz * m.yy)) * m.zx))))))))), ()) = (w64 (detZ m), ())
theorem r_rDet (x : HL C_rDet.args) : runs (env0 [] [] []) 400 52 C_rDet x = T_rDet x.1 := by kernel_rfl
theorem p_rDet (m : M3) (h0 : (Sh.agg .mat).okA m) : T_rDet m := by
  simp only [T_rDet, detZ, Int.zero_add, and_self, w64_add_l, w64_add_r, w64_sub_l, w64_sub_r, w64_mul_l, w64_mul_r, w64_w64]
  congr 2; grind
theorem s_rDet : Sound Tryz.prog 52 C_rDet :=
  sound_of_eq (env0_ok (.nil)) (fun x => T_rDet x.1) r_rDet fun x ok hp => p_rDet x.1 ok.1
noncomputable def C_rAdjugate : Contract := { args := [.agg .mat], res := [.agg .mat], pre := fun _ => True, F := fun x => ((wM (adjZ x.1) : M3), ()) }
def T_rAdjugate (m : M3) : Prop :=
  ((M3.mk ((w64 (((w64 (m.yy * m.zz)) - (w64 (m.yz * m.zy)))))) ((w64 (((w64 (m.zy * m.xz)) - (w64 (m.zz * m.xy)))))) ((w64 (((w64 (m.xy * m.yz)) - (w64 (m.xz * m.yy)))))) ((w64 (((w64 (m.yz * m.zx)) - (w64 (m.yx * m.zz)))))) ((w64 (((w64 (m.zz * m.xx)) - (w64 (m.zx * m.xz)))))) ((w64 (((w64 (m.xz * m.yx)) - (w64 (m.xx * m.yz)))))) ((w64 (((w64 (m.yx * m.zy)) - (w64 (m.yy * m.zx)))))) ((w64 (((w64 (m.zx * m.xy)) - (w64 (m.zy * m.xx)))))) ((w64 (((w64 (m.xx * m.yy)) - (w64 (m.xy * m.yx))))))), ()) = (wM (adjZ m), ())
theorem r_rAdjugate (x : HL C_rAdjugate.args) : runs (env0 [] [] []) 400 94 C_rAdjugate x = T_rAdjugate x.1 := by kernel_rfl
theorem p_rAdjugate (m : M3) (h0 : (Sh.agg .mat).okA m) : T_rAdjugate m := by
  simp only [T_rAdjugate, wM, adjZ, Int.zero_add, and_self, w64_add_l, w64_add_r, w64_sub_l, w64_sub_r, w64_mul_l, w64_mul_r, w64_w64]
theorem s_rAdjugate : Sound Tryz.prog 94 C_rAdjugate :=
  sound_of_eq (env0_ok (.nil)) (fun x => T_rAdjugate x.1) r_rAdjugate fun x ok hp => p_rAdjugate x.1 ok.1
noncomputable def C_Scale : Contract := { args := [.int .i64, .agg .mat], res := [.agg .mat], pre := fun _ => True, F := fun x => ((wM (scaZ x.1 x.2.1) : M3), ()) }
def T_Scale (n : Int) (m : M3) : Prop :=
  ((M3.mk ((w64 (m.xx * n))) ((w64 (m.xy * n))) ((w64 (m.xz * n))) ((w64 (m.yx * n))) ((w64 (m.yy * n))) ((w64 (m.yz * n))) ((w64 (m.zx * n))) ((w64 (m.zy * n))) ((w64 (m.zz * n)))), ()) = (wM (scaZ n m), ())
theorem r_Scale (x : HL C_Scale.args) : runs (env0 [] [] []) 400 93 C_Scale x = T_Scale x.1 x.2.1 := by kernel_rfl
theorem p_Scale (n : Int) (m : M3) (h0 : (Sh.int .i64).okA n) (h1 : (Sh.agg .mat).okA m) : T_Scale n m := by
  rfl
theorem s_Scale : Sound Tryz.prog 93 C_Scale :=
  sound_of_eq (env0_ok (.nil)) (fun x => T_Scale x.1 x.2.1) r_Scale fun x ok hp => p_Scale x.1 x.2.1 ok.1 ok.2.1
noncomputable def C_rForm : Contract := { args := [.agg .mat], res := [.int .i64], pre := fun _ => True, F := fun x => ((uniE x.1 : Int), ()) }
def T_rForm (m : M3) : Prop :=
  (True ∧
(((!(decide (errM m = 0))) = true →
 (4, ()) = (uniE m, ())) ∧
((!(decide (errM m = 0))) = false →
(True ∧
(((!(decide (w64 (detZ m) = 1))) = true →
 (((!(decide (w64 (detZ m) = (-1)))) = true →
  (3, ()) = (uniE m, ())) ∧
 ((!(decide (w64 (detZ m) = (-1)))) = false →
 (0, ()) = (uniE m, ())))) ∧
((!(decide (w64 (detZ m) = 1))) = false →
(0, ()) = (uniE m, ())))))))
theorem r_rForm (x : HL C_rForm.args) : runs (env0 [(28, C_rMat), (52, C_rDet)] [] []) 400 25 C_rForm x = T_rForm x.1 := by kernel_rfl
theorem p_rForm (m : M3) (h0 : (Sh.agg .mat).okA m) : T_rForm m := by
  rcases errM_cases m with hm | hm <;> simp [T_rForm, hm, uniE] <;> grind
theorem s_rForm : Sound Tryz.prog 25 C_rForm :=
  sound_of_eq (env0_ok (.cons s_rMat (.cons s_rDet (.nil)))) (fun x => T_rForm x.1) r_rForm fun x ok hp => p_rForm x.1 ok.1
noncomputable def C_rInverse : Contract := { args := [.agg .mat], res := [.agg .mat], pre := fun _ => True, F := fun x => ((wM (scaZ (detZ x.1) (adjZ x.1)) : M3), ()) }
def T_rInverse (m : M3) : Prop :=
  (True ∧
(True ∧
(True ∧
(wM (scaZ (w64 (detZ m)) (wM (adjZ m))), ()) = (wM (scaZ (detZ m) (adjZ m)), ()))))
theorem r_rInverse (x : HL C_rInverse.args) : runs (env0 [(93, C_Scale), (52, C_rDet), (94, C_rAdjugate)] [] []) 400 57 C_rInverse x = T_rInverse x.1 := by kernel_rfl
theorem p_rInverse (m : M3) (h0 : (Sh.agg .mat).okA m) : T_rInverse m := by
  simp only [T_rInverse, wM, scaZ, and_self, w64_add_l, w64_add_r, w64_sub_l, w64_sub_r, w64_mul_l, w64_mul_r, w64_w64]
theorem s_rInverse : Sound Tryz.prog 57 C_rInverse :=
  sound_of_eq (env0_ok (.cons s_Scale (.cons s_rDet (.cons s_rAdjugate (.nil))))) (fun x => T_rInverse x.1) r_rInverse fun x ok hp => p_rInverse x.1 ok.1
end Go.Fx
