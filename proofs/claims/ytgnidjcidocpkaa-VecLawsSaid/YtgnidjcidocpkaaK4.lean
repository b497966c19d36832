/-
  Contracts: rMat, rMul, rColumn, rTranspose, rApply, rLeft, rCompare, rDet, rTrace, rAdjugate.
-/
import Derived.Test.YtgnidjcidocpkaaK3
namespace Go.Fx
open Go Go.Proofs
set_option maxRecDepth 100000
set_option linter.unusedVariables false
noncomputable def C_rMat : Contract := { args := [.agg .mat], res := [.int .i64], pre := fun _ => True, F := fun x => ((errM x.1 : Int), ()) }
def T_rMat (m : M3) : Prop :=
  (((decide (m.xx < (-1000))) = true →
 (4, ()) = (errM m, ())) ∧
((decide (m.xx < (-1000))) = false →
(((decide (1000 < m.xx)) = true →
 (4, ()) = (errM m, ())) ∧
((decide (1000 < m.xx)) = false →
(((decide (m.xy < (-1000))) = true →
 (4, ()) = (errM m, ())) ∧
((decide (m.xy < (-1000))) = false →
(((decide (1000 < m.xy)) = true →
 (4, ()) = (errM m, ())) ∧
((decide (1000 < m.xy)) = false →
(((decide (m.xz < (-1000))) = true →
 (4, ()) = (errM m, ())) ∧
((decide (m.xz < (-1000))) = false →
(((decide (1000 < m.xz)) = true →
 (4, ()) = (errM m, ())) ∧
((decide (1000 < m.xz)) = false →
(((decide (m.yx < (-1000))) = true →
 (4, ()) = (errM m, ())) ∧
((decide (m.yx < (-1000))) = false →
(((decide (1000 < m.yx)) = true →
 (4, ()) = (errM m, ())) ∧
((decide (1000 < m.yx)) = false →
(((decide (m.yy < (-1000))) = true →
 (4, ()) = (errM m, ())) ∧
((decide (m.yy < (-1000))) = false →
(((decide (1000 < m.yy)) = true →
 (4, ()) = (errM m, ())) ∧
((decide (1000 < m.yy)) = false →
(((decide (m.yz < (-1000))) = true →
 (4, ()) = (errM m, ())) ∧
((decide (m.yz < (-1000))) = false →
(((decide (1000 < m.yz)) = true →
 (4, ()) = (errM m, ())) ∧
((decide (1000 < m.yz)) = false →
(((decide (m.zx < (-1000))) = true →
 (4, ()) = (errM m, ())) ∧
((decide (m.zx < (-1000))) = false →
(((decide (1000 < m.zx)) = true →
 (4, ()) = (errM m, ())) ∧
((decide (1000 < m.zx)) = false →
(((decide (m.zy < (-1000))) = true →
 (4, ()) = (errM m, ())) ∧
((decide (m.zy < (-1000))) = false →
(((decide (1000 < m.zy)) = true →
 (4, ()) = (errM m, ())) ∧
((decide (1000 < m.zy)) = false →
(((decide (m.zz < (-1000))) = true →
 (4, ()) = (errM m, ())) ∧
((decide (m.zz < (-1000))) = false →
(((decide (1000 < m.zz)) = true →
 (4, ()) = (errM m, ())) ∧
((decide (1000 < m.zz)) = false →
(0, ()) = (errM m, ())))))))))))))))))))))))))))))))))))))
theorem r_rMat (x : HL C_rMat.args) : runs (env [] []) 400 14 C_rMat x = T_rMat x.1 := by kernel_rfl
theorem p_rMat (m : M3) (h0 : (Sh.agg .mat).okA m) : T_rMat m := by
  simp only [T_rMat, decide_eq_true_eq, decide_eq_false_iff_not]
  repeat' (first | apply And.intro | intro _ | exact trivial)
  all_goals simp only [errM, okM, inE, Bool.and_eq_true, decide_eq_true_eq]
  all_goals first | rw [if_neg (by omega)] | rw [if_pos (by omega)]
theorem s_rMat : Sound Try.prog 14 C_rMat :=
  sound_of_eq (env_ok (.nil)) (fun x => T_rMat x.1) r_rMat fun x ok hp => p_rMat x.1 ok.1
noncomputable def C_rMul : Contract := { args := [.agg .mat, .agg .mat], res := [.agg .mat], pre := fun _ => True, F := fun x => ((wM (mulZ x.1 x.2.1) : M3), ()) }
def T_rMul (a : M3) (b : M3) : Prop :=
  ((M3.mk ((w64 (((w64 (((0 + (w64 (a.xx * b.xx))) + (w64 (a.xy * b.yx))))) + (w64 (a.xz * b.zx)))))) ((w64 (((w64 (((0 + (w64 (a.xx * b.xy))) + (w64 (a.xy * b.yy))))) + (w64 (a.xz * b.zy)))))) ((w64 (((w64 (((0 + (w64 (a.xx * b.xz))) + (w64 (a.xy * b.yz))))) + (w64 (a.xz * b.zz)))))) ((w64 (((w64 (((0 + (w64 (a.yx * b.xx))) + (w64 (a.yy * b.yx))))) + (w64 (a.yz * b.zx)))))) ((w64 (((w64 (((0 + (w64 (a.yx * b.xy))) + (w64 (a.yy * b.yy))))) + (w64 (a.yz * b.zy)))))) ((w64 (((w64 (((0 + (w64 (a.yx * b.xz))) + (w64 (a.yy * b.yz))))) + (w64 (a.yz * b.zz)))))) ((w64 (((w64 (((0 + (w64 (a.zx * b.xx))) + (w64 (a.zy * b.yx))))) + (w64 (a.zz * b.zx)))))) ((w64 (((w64 (((0 + (w64 (a.zx * b.xy))) + (w64 (a.zy * b.yy))))) + (w64 (a.zz * b.zy)))))) ((w64 (((w64 (((0 + (w64 (a.zx * b.xz))) + (w64 (a.zy * b.yz))))) + (w64 (a.zz * b.zz))))))), ()) = (wM (mulZ a b), ())
theorem r_rMul (x : HL C_rMul.args) : runs (env [] []) 400 15 C_rMul x = T_rMul x.1 x.2.1 := by kernel_rfl
theorem p_rMul (a : M3) (b : M3) (h0 : (Sh.agg .mat).okA a) (h1 : (Sh.agg .mat).okA b) : T_rMul a b := by
  simp only [T_rMul, wM, mulZ, Int.zero_add, and_self, w64_add_l, w64_add_r, w64_sub_l, w64_sub_r, w64_mul_l, w64_mul_r, w64_w64]
theorem s_rMul : Sound Try.prog 15 C_rMul :=
  sound_of_eq (env_ok (.nil)) (fun x => T_rMul x.1 x.2.1) r_rMul fun x ok hp => p_rMul x.1 x.2.1 ok.1 ok.2.1
noncomputable def C_rColumn : Contract := { args := [.agg .vec], res := [.int .i64], pre := fun _ => True, F := fun x => ((errV x.1 : Int), ()) }
def T_rColumn (v : V3) : Prop :=
  (((decide (v.x < (-2147483648))) = true →
 (4, ()) = (errV v, ())) ∧
((decide (v.x < (-2147483648))) = false →
(((decide (2147483648 < v.x)) = true →
 (4, ()) = (errV v, ())) ∧
((decide (2147483648 < v.x)) = false →
(((decide (v.y < (-2147483648))) = true →
 (4, ()) = (errV v, ())) ∧
((decide (v.y < (-2147483648))) = false →
(((decide (2147483648 < v.y)) = true →
 (4, ()) = (errV v, ())) ∧
((decide (2147483648 < v.y)) = false →
(((decide (v.z < (-2147483648))) = true →
 (4, ()) = (errV v, ())) ∧
((decide (v.z < (-2147483648))) = false →
(((decide (2147483648 < v.z)) = true →
 (4, ()) = (errV v, ())) ∧
((decide (2147483648 < v.z)) = false →
(0, ()) = (errV v, ())))))))))))))
theorem r_rColumn (x : HL C_rColumn.args) : runs (env [] []) 400 16 C_rColumn x = T_rColumn x.1 := by kernel_rfl
theorem p_rColumn (v : V3) (h0 : (Sh.agg .vec).okA v) : T_rColumn v := by
  simp only [T_rColumn, decide_eq_true_eq, decide_eq_false_iff_not]
  repeat' (first | apply And.intro | intro _ | exact trivial)
  all_goals simp only [errV, okC, inE, Bool.and_eq_true, decide_eq_true_eq]
  all_goals first | rw [if_neg (by omega)] | rw [if_pos (by omega)]
theorem s_rColumn : Sound Try.prog 16 C_rColumn :=
  sound_of_eq (env_ok (.nil)) (fun x => T_rColumn x.1) r_rColumn fun x ok hp => p_rColumn x.1 ok.1
noncomputable def C_rTranspose : Contract := { args := [.agg .mat], res := [.agg .mat], pre := fun _ => True, F := fun x => ((traZ x.1 : M3), ()) }
def T_rTranspose (m : M3) : Prop :=
  ((M3.mk m.xx m.yx m.zx m.xy m.yy m.zy m.xz m.yz m.zz), ()) = (traZ m, ())
theorem r_rTranspose (x : HL C_rTranspose.args) : runs (env [] []) 400 33 C_rTranspose x = T_rTranspose x.1 := by kernel_rfl
theorem p_rTranspose (m : M3) (h0 : (Sh.agg .mat).okA m) : T_rTranspose m := by
  rfl
theorem s_rTranspose : Sound Try.prog 33 C_rTranspose :=
  sound_of_eq (env_ok (.nil)) (fun x => T_rTranspose x.1) r_rTranspose fun x ok hp => p_rTranspose x.1 ok.1
noncomputable def C_rApply : Contract := { args := [.agg .mat, .agg .vec], res := [.agg .vec], pre := fun _ => True, F := fun x => ((wV (appZ x.1 x.2.1) : V3), ()) }
def T_rApply (m : M3) (v : V3) : Prop :=
  ((V3.mk ((w64 (((w64 (((0 + (w64 (m.xx * v.x))) + (w64 (m.xy * v.y))))) + (w64 (m.xz * v.z)))))) ((w64 (((w64 (((0 + (w64 (m.yx * v.x))) + (w64 (m.yy * v.y))))) + (w64 (m.yz * v.z)))))) ((w64 (((w64 (((0 + (w64 (m.zx * v.x))) + (w64 (m.zy * v.y))))) + (w64 (m.zz * v.z))))))), ()) = (wV (appZ m v), ())
theorem r_rApply (x : HL C_rApply.args) : runs (env [] []) 400 17 C_rApply x = T_rApply x.1 x.2.1 := by kernel_rfl
theorem p_rApply (m : M3) (v : V3) (h0 : (Sh.agg .mat).okA m) (h1 : (Sh.agg .vec).okA v) : T_rApply m v := by
  simp only [T_rApply, wV, appZ, Int.zero_add, and_self, w64_add_l, w64_add_r, w64_sub_l, w64_sub_r, w64_mul_l, w64_mul_r, w64_w64]
theorem s_rApply : Sound Try.prog 17 C_rApply :=
  sound_of_eq (env_ok (.nil)) (fun x => T_rApply x.1 x.2.1) r_rApply fun x ok hp => p_rApply x.1 x.2.1 ok.1 ok.2.1
noncomputable def C_rLeft : Contract := { args := [.agg .vec, .agg .mat], res := [.agg .vec], pre := fun _ => True, F := fun x => ((wV (appZ (traZ x.2.1) x.1) : V3), ()) }
def T_rLeft (v : V3) (m : M3) : Prop :=
  (True ∧
(True ∧
(wV (appZ (traZ m) v), ()) = (wV (appZ (traZ m) v), ())))
theorem r_rLeft (x : HL C_rLeft.args) : runs (env [(33, C_rTranspose), (17, C_rApply)] []) 400 18 C_rLeft x = T_rLeft x.1 x.2.1 := by kernel_rfl
theorem p_rLeft (v : V3) (m : M3) (h0 : (Sh.agg .vec).okA v) (h1 : (Sh.agg .mat).okA m) : T_rLeft v m := by
  exact ⟨trivial, trivial, rfl⟩
theorem s_rLeft : Sound Try.prog 18 C_rLeft :=
  sound_of_eq (env_ok (.cons s_rTranspose (.cons s_rApply (.nil)))) (fun x => T_rLeft x.1 x.2.1) r_rLeft fun x ok hp => p_rLeft x.1 x.2.1 ok.1 ok.2.1
noncomputable def C_rCompare : Contract := { args := [.agg .mat, .agg .mat], res := [.int .i64], pre := fun _ => True, F := fun x => ((cmpM x.1 x.2.1 : Int), ()) }
def T_rCompare (a : M3) (b : M3) : Prop :=
  (((decide (a.xx < b.xx)) = true →
 ((-1), ()) = (cmpM a b, ())) ∧
((decide (a.xx < b.xx)) = false →
(((decide (b.xx < a.xx)) = true →
 (1, ()) = (cmpM a b, ())) ∧
((decide (b.xx < a.xx)) = false →
(((decide (a.xy < b.xy)) = true →
 ((-1), ()) = (cmpM a b, ())) ∧
((decide (a.xy < b.xy)) = false →
(((decide (b.xy < a.xy)) = true →
 (1, ()) = (cmpM a b, ())) ∧
((decide (b.xy < a.xy)) = false →
(((decide (a.xz < b.xz)) = true →
 ((-1), ()) = (cmpM a b, ())) ∧
((decide (a.xz < b.xz)) = false →
(((decide (b.xz < a.xz)) = true →
 (1, ()) = (cmpM a b, ())) ∧
((decide (b.xz < a.xz)) = false →
(((decide (a.yx < b.yx)) = true →
 ((-1), ()) = (cmpM a b, ())) ∧
((decide (a.yx < b.yx)) = false →
(((decide (b.yx < a.yx)) = true →
 (1, ()) = (cmpM a b, ())) ∧
((decide (b.yx < a.yx)) = false →
(((decide (a.yy < b.yy)) = true →
 ((-1), ()) = (cmpM a b, ())) ∧
((decide (a.yy < b.yy)) = false →
(((decide (b.yy < a.yy)) = true →
 (1, ()) = (cmpM a b, ())) ∧
((decide (b.yy < a.yy)) = false →
(((decide (a.yz < b.yz)) = true →
 ((-1), ()) = (cmpM a b, ())) ∧
((decide (a.yz < b.yz)) = false →
(((decide (b.yz < a.yz)) = true →
 (1, ()) = (cmpM a b, ())) ∧
((decide (b.yz < a.yz)) = false →
(((decide (a.zx < b.zx)) = true →
 ((-1), ()) = (cmpM a b, ())) ∧
((decide (a.zx < b.zx)) = false →
(((decide (b.zx < a.zx)) = true →
 (1, ()) = (cmpM a b, ())) ∧
((decide (b.zx < a.zx)) = false →
(((decide (a.zy < b.zy)) = true →
 ((-1), ()) = (cmpM a b, ())) ∧
((decide (a.zy < b.zy)) = false →
(((decide (b.zy < a.zy)) = true →
 (1, ()) = (cmpM a b, ())) ∧
((decide (b.zy < a.zy)) = false →
(((decide (a.zz < b.zz)) = true →
 ((-1), ()) = (cmpM a b, ())) ∧
((decide (a.zz < b.zz)) = false →
(((decide (b.zz < a.zz)) = true →
 (1, ()) = (cmpM a b, ())) ∧
((decide (b.zz < a.zz)) = false →
(0, ()) = (cmpM a b, ())))))))))))))))))))))))))))))))))))))
theorem r_rCompare (x : HL C_rCompare.args) : runs (env [] []) 400 20 C_rCompare x = T_rCompare x.1 x.2.1 := by kernel_rfl
theorem p_rCompare (a : M3) (b : M3) (h0 : (Sh.agg .mat).okA a) (h1 : (Sh.agg .mat).okA b) : T_rCompare a b := by
  simp only [T_rCompare, decide_eq_true_eq, decide_eq_false_iff_not]
  repeat' (first | apply And.intro | intro _ | exact trivial)
  all_goals simp [cmpM, cmpE, *]
theorem s_rCompare : Sound Try.prog 20 C_rCompare :=
  sound_of_eq (env_ok (.nil)) (fun x => T_rCompare x.1 x.2.1) r_rCompare fun x ok hp => p_rCompare x.1 x.2.1 ok.1 ok.2.1
noncomputable def C_rDet : Contract := { args := [.agg .mat], res := [.int .i64], pre := fun _ => True, F := fun x => ((w64 (detZ x.1) : Int), ()) }
def T_rDet (m : M3) : Prop :=
  ((w64 (((w64 (((0 + (w64 (((w64 (((w64 (m.xx * m.yy)) * m.zz))) - (w64 (((w64 (m.xx * m.yz)) * m.zy))))))) + (w64 (((w64 (((w64 (m.xy * m.yz)) * m.zx))) - (w64 (((w64 (m.xy * m.yx)) * m.zz))))))))) + (w64 (((w64 (((w64 (m.xz * m.yx)) * m.zy))) - (w64 (((w64 (m.xz * m.yy)) * m.zx))))))))), ()) = (w64 (detZ m), ())
theorem r_rDet (x : HL C_rDet.args) : runs (env [] []) 400 34 C_rDet x = T_rDet x.1 := by kernel_rfl
theorem p_rDet (m : M3) (h0 : (Sh.agg .mat).okA m) : T_rDet m := by
  simp only [T_rDet, detZ, Int.zero_add, and_self, w64_add_l, w64_add_r, w64_sub_l, w64_sub_r, w64_mul_l, w64_mul_r, w64_w64]
  congr 2; grind
theorem s_rDet : Sound Try.prog 34 C_rDet :=
  sound_of_eq (env_ok (.nil)) (fun x => T_rDet x.1) r_rDet fun x ok hp => p_rDet x.1 ok.1
noncomputable def C_rTrace : Contract := { args := [.agg .mat], res := [.int .i64], pre := fun _ => True, F := fun x => ((w64 (trcZ x.1) : Int), ()) }
def T_rTrace (m : M3) : Prop :=
  ((w64 (((w64 (m.xx + m.yy)) + m.zz))), ()) = (w64 (trcZ m), ())
theorem r_rTrace (x : HL C_rTrace.args) : runs (env [] []) 400 35 C_rTrace x = T_rTrace x.1 := by kernel_rfl
theorem p_rTrace (m : M3) (h0 : (Sh.agg .mat).okA m) : T_rTrace m := by
  simp only [T_rTrace, trcZ, Int.zero_add, and_self, w64_add_l, w64_add_r, w64_sub_l, w64_sub_r, w64_mul_l, w64_mul_r, w64_w64]
theorem s_rTrace : Sound Try.prog 35 C_rTrace :=
  sound_of_eq (env_ok (.nil)) (fun x => T_rTrace x.1) r_rTrace fun x ok hp => p_rTrace x.1 ok.1
noncomputable def C_rAdjugate : Contract := { args := [.agg .mat], res := [.agg .mat], pre := fun _ => True, F := fun x => ((wM (adjZ x.1) : M3), ()) }
def T_rAdjugate (m : M3) : Prop :=
  ((M3.mk ((w64 (((w64 (m.yy * m.zz)) - (w64 (m.yz * m.zy)))))) ((w64 (((w64 (m.zy * m.xz)) - (w64 (m.zz * m.xy)))))) ((w64 (((w64 (m.xy * m.yz)) - (w64 (m.xz * m.yy)))))) ((w64 (((w64 (m.yz * m.zx)) - (w64 (m.yx * m.zz)))))) ((w64 (((w64 (m.zz * m.xx)) - (w64 (m.zx * m.xz)))))) ((w64 (((w64 (m.xz * m.yx)) - (w64 (m.xx * m.yz)))))) ((w64 (((w64 (m.yx * m.zy)) - (w64 (m.yy * m.zx)))))) ((w64 (((w64 (m.zx * m.xy)) - (w64 (m.zy * m.xx)))))) ((w64 (((w64 (m.xx * m.yy)) - (w64 (m.xy * m.yx))))))), ()) = (wM (adjZ m), ())
theorem r_rAdjugate (x : HL C_rAdjugate.args) : runs (env [] []) 400 36 C_rAdjugate x = T_rAdjugate x.1 := by kernel_rfl
theorem p_rAdjugate (m : M3) (h0 : (Sh.agg .mat).okA m) : T_rAdjugate m := by
  simp only [T_rAdjugate, wM, adjZ, Int.zero_add, and_self, w64_add_l, w64_add_r, w64_sub_l, w64_sub_r, w64_mul_l, w64_mul_r, w64_w64]
theorem s_rAdjugate : Sound Try.prog 36 C_rAdjugate :=
  sound_of_eq (env_ok (.nil)) (fun x => T_rAdjugate x.1) r_rAdjugate fun x ok hp => p_rAdjugate x.1 ok.1
end Go.Fx
