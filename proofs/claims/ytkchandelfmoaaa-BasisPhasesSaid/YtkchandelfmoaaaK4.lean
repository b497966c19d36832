/-
  Contracts: rMat, rMul, rTranspose, rApply, rLeft, rDet, rAdjugate.
-/
import Derived.Test.YtkchandelfmoaaaK3
namespace Go.Fx
open Go Go.Proofs
set_option maxRecDepth 100000
set_option linter.unusedVariables false
noncomputable def C_rMat : Contract := { args := [.agg .mat], res := [.int .i64], pre := fun _ => True, F := fun x => ((errM x.1 : Int), ()) }
def T_rMat (m : M3) : Prop :=
  (((decide (m.xx < (-1000))) = true →
 (4, ()) = (errM m, ())) ∧
((decide (m.xx < (-1000))) = false →
(((decide (1000 < m.xx)) = true →
 (4, ()) = (errM m, ())) ∧
((decide (1000 < m.xx)) = false →
(((decide (m.xy < (-1000))) = true →
 (4, ()) = (errM m, ())) ∧
((decide (m.xy < (-1000))) = false →
(((decide (1000 < m.xy)) = true →
 (4, ()) = (errM m, ())) ∧
((decide (1000 < m.xy)) = false →
(((decide (m.xz < (-1000))) = true →
 (4, ()) = (errM m, ())) ∧
((decide (m.xz < (-1000))) = false →
(((decide (1000 < m.xz)) = true →
 (4, ()) = (errM m, ())) ∧
((decide (1000 < m.xz)) = false →
(((decide (m.yx < (-1000))) = true →
 (4, ()) = (errM m, ())) ∧
((decide (m.yx < (-1000))) = false →
(((decide (1000 < m.yx)) = true →
 (4, ()) = (errM m, ())) ∧
((decide (1000 < m.yx)) = false →
(((decide (m.yy < (-1000))) = true →
 (4, ()) = (errM m, ())) ∧
((decide (m.yy < (-1000))) = false →
(((decide (1000 < m.yy)) = true →
 (4, ()) = (errM m, ())) ∧
((decide (1000 < m.yy)) = false →
(((decide (m.yz < (-1000))) = true →
 (4, ()) = (errM m, ())) ∧
((decide (m.yz < (-1000))) = false →
(((decide (1000 < m.yz)) = true →
 (4, ()) = (errM m, ())) ∧
((decide (1000 < m.yz)) = false →
(((decide (m.zx < (-1000))) = true →
 (4, ()) = (errM m, ())) ∧
((decide (m.zx < (-1000))) = false →
(((decide (1000 < m.zx)) = true →
 (4, ()) = (errM m, ())) ∧
((decide (1000 < m.zx)) = false →
(((decide (m.zy < (-1000))) = true →
 (4, ()) = (errM m, ())) ∧
((decide (m.zy < (-1000))) = false →
(((decide (1000 < m.zy)) = true →
 (4, ()) = (errM m, ())) ∧
((decide (1000 < m.zy)) = false →
(((decide (m.zz < (-1000))) = true →
 (4, ()) = (errM m, ())) ∧
((decide (m.zz < (-1000))) = false →
(((decide (1000 < m.zz)) = true →
 (4, ()) = (errM m, ())) ∧
((decide (1000 < m.zz)) = false →
(0, ()) = (errM m, ())))))))))))))))))))))))))))))))))))))
theorem r_rMat (x : HL C_rMat.args) : runs (env [] []) 400 54 C_rMat x = T_rMat x.1 := by kernel_rfl
theorem p_rMat (m : M3) (h0 : (Sh.agg .mat).okA m) : T_rMat m := by
  simp only [T_rMat, decide_eq_true_eq, decide_eq_false_iff_not]
  repeat' (first | apply And.intro | intro _ | exact trivial)
  all_goals simp only [errM, okM, inE, Bool.and_eq_true, decide_eq_true_eq]
  all_goals first | rw [if_neg (by omega)] | rw [if_pos (by omega)]
theorem s_rMat : Sound Try.prog 54 C_rMat :=
  sound_of_eq (env_ok (.nil)) (fun x => T_rMat x.1) r_rMat fun x ok hp => p_rMat x.1 ok.1
noncomputable def C_rMul : Contract := { args := [.agg .mat, .agg .mat], res := [.agg .mat], pre := fun _ => True, F := fun x => ((wM (mulZ x.1 x.2.1) : M3), ()) }
def T_rMul (a : M3) (b : M3) : Prop :=
  ((M3.mk ((w64 (((w64 (((0 + (w64 (a.xx * b.xx))) + (w64 (a.xy * b.yx))))) + (w64 (a.xz * b.zx)))))) ((w64 (((w64 (((0 + (w64 (a.xx * b.xy))) + (w64 (a.xy * b.yy))))) + (w64 (a.xz * b.zy)))))) ((w64 (((w64 (((0 + (w64 (a.xx * b.xz))) + (w64 (a.xy * b.yz))))) + (w64 (a.xz * b.zz)))))) ((w64 (((w64 (((0 + (w64 (a.yx * b.xx))) + (w64 (a.yy * b.yx))))) + (w64 (a.yz * b.zx)))))) ((w64 (((w64 (((0 + (w64 (a.yx * b.xy))) + (w64 (a.yy * b.yy))))) + (w64 (a.yz * b.zy)))))) ((w64 (((w64 (((0 + (w64 (a.yx * b.xz))) + (w64 (a.yy * b.yz))))) + (w64 (a.yz * b.zz)))))) ((w64 (((w64 (((0 + (w64 (a.zx * b.xx))) + (w64 (a.zy * b.yx))))) + (w64 (a.zz * b.zx)))))) ((w64 (((w64 (((0 + (w64 (a.zx * b.xy))) + (w64 (a.zy * b.yy))))) + (w64 (a.zz * b.zy)))))) ((w64 (((w64 (((0 + (w64 (a.zx * b.xz))) + (w64 (a.zy * b.yz))))) + (w64 (a.zz * b.zz))))))), ()) = (wM (mulZ a b), ())
theorem r_rMul (x : HL C_rMul.args) : runs (env [] []) 400 52 C_rMul x = T_rMul x.1 x.2.1 := by kernel_rfl
theorem p_rMul (a : M3) (b : M3) (h0 : (Sh.agg .mat).okA a) (h1 : (Sh.agg .mat).okA b) : T_rMul a b := by
  simp only [T_rMul, wM, mulZ, Int.zero_add, and_self, w64_add_l, w64_add_r, w64_sub_l, w64_sub_r, w64_mul_l, w64_mul_r, w64_w64]
theorem s_rMul : Sound Try.prog 52 C_rMul :=
  sound_of_eq (env_ok (.nil)) (fun x => T_rMul x.1 x.2.1) r_rMul fun x ok hp => p_rMul x.1 x.2.1 ok.1 ok.2.1
noncomputable def C_rTranspose : Contract := { args := [.agg .mat], res := [.agg .mat], pre := fun _ => True, F := fun x => ((traZ x.1 : M3), ()) }
def T_rTranspose (m : M3) : Prop :=
  ((M3.mk m.xx m.yx m.zx m.xy m.yy m.zy m.xz m.yz m.zz), ()) = (traZ m, ())
theorem r_rTranspose (x : HL C_rTranspose.args) : runs (env [] []) 400 81 C_rTranspose x = T_rTranspose x.1 := by kernel_rfl
theorem p_rTranspose (m : M3) (h0 : (Sh.agg .mat).okA m) : T_rTranspose m := by
  rfl
theorem s_rTranspose : Sound Try.prog 81 C_rTranspose :=
  sound_of_eq (env_ok (.nil)) (fun x => T_rTranspose x.1) r_rTranspose fun x ok hp => p_rTranspose x.1 ok.1
noncomputable def C_rApply : Contract := { args := [.agg .mat, .agg .vec], res := [.agg .vec], pre := fun _ => True, F := fun x => ((wV (appZ x.1 x.2.1) : V3), ()) }
def T_rApply (m : M3) (v : V3) : Prop :=
  ((V3.mk ((w64 (((w64 (((0 + (w64 (m.xx * v.x))) + (w64 (m.xy * v.y))))) + (w64 (m.xz * v.z)))))) ((w64 (((w64 (((0 + (w64 (m.yx * v.x))) + (w64 (m.yy * v.y))))) + (w64 (m.yz * v.z)))))) ((w64 (((w64 (((0 + (w64 (m.zx * v.x))) + (w64 (m.zy * v.y))))) + (w64 (m.zz * v.z))))))), ()) = (wV (appZ m v), ())
theorem r_rApply (x : HL C_rApply.args) : runs (env [] []) 400 58 C_rApply x = T_rApply x.1 x.2.1 := by kernel_rfl
theorem p_rApply (m : M3) (v : V3) (h0 : (Sh.agg .mat).okA m) (h1 : (Sh.agg .vec).okA v) : T_rApply m v := by
  simp only [T_rApply, wV, appZ, Int.zero_add, and_self, w64_add_l, w64_add_r, w64_sub_l, w64_sub_r, w64_mul_l, w64_mul_r, w64_w64]
theorem s_rApply : Sound Try.prog 58 C_rApply :=
  sound_of_eq (env_ok (.nil)) (fun x => T_rApply x.1 x.2.1) r_rApply fun x ok hp => p_rApply x.1 x.2.1 ok.1 ok.2.1
noncomputable def C_rLeft : Contract := { args := [.agg .vec, .agg .mat], res := [.agg .vec], pre := fun _ => True, F := fun x => ((wV (appZ (traZ x.2.1) x.1) : V3), ()) }
def T_rLeft (v : V3) (m : M3) : Prop :=
  (True ∧
(True ∧
(wV (appZ (traZ m) v), ()) = (wV (appZ (traZ m) v), ())))
theorem r_rLeft (x : HL C_rLeft.args) : runs (env [(81, C_rTranspose), (58, C_rApply)] []) 400 65 C_rLeft x = T_rLeft x.1 x.2.1 := by kernel_rfl
theorem p_rLeft (v : V3) (m : M3) (h0 : (Sh.agg .vec).okA v) (h1 : (Sh.agg .mat).okA m) : T_rLeft v m := by
  exact ⟨trivial, trivial, rfl⟩
theorem s_rLeft : Sound Try.prog 65 C_rLeft :=
  sound_of_eq (env_ok (.cons s_rTranspose (.cons s_rApply (.nil)))) (fun x => T_rLeft x.1 x.2.1) r_rLeft fun x ok hp => p_rLeft x.1 x.2.1 ok.1 ok.2.1
noncomputable def C_rDet : Contract := { args := [.agg .mat], res := [.int .i64], pre := fun _ => True, F := fun x => ((w64 (detZ x.1) : Int), ()) }
def T_rDet (m : M3) : Prop :=
  ((w64 (((w64 (((0 + (w64 (((w64 (((w64 (m.xx * m.yy)) * m.zz))) - (w64 (((w64 (m.xx * m.yz)) * m.zy))))))) + (w64 (((w64 (((w64 (m.xy * m.yz)) * m.zx))) - (w64 (((w64 (m.xy * m.yx)) * m.zz))))))))) + (w64 (((w64 (((w64 (m.xz * m.yx)) * m.zy))) - (w64 (((w64 (m.xz * m.yy)) * m.zx))))))))), ()) = (w64 (detZ m), ())
theorem r_rDet (x : HL C_rDet.args) : runs (env [] []) 400 86 C_rDet x = T_rDet x.1 := by kernel_rfl
theorem p_rDet (m : M3) (h0 : (Sh.agg .mat).okA m) : T_rDet m := by
  simp only [T_rDet, detZ, Int.zero_add, and_self, w64_add_l, w64_add_r, w64_sub_l, w64_sub_r, w64_mul_l, w64_mul_r, w64_w64]
  congr 2; grind
theorem s_rDet : Sound Try.prog 86 C_rDet :=
  sound_of_eq (env_ok (.nil)) (fun x => T_rDet x.1) r_rDet fun x ok hp => p_rDet x.1 ok.1
noncomputable def C_rAdjugate : Contract := { args := [.agg .mat], res := [.agg .mat], pre := fun _ => True, F := fun x => ((wM (adjZ x.1) : M3), ()) }
def T_rAdjugate (m : M3) : Prop :=
  ((M3.mk ((w64 (((w64 (m.yy * m.zz)) - (w64 (m.yz * m.zy)))))) ((w64 (((w64 (m.zy * m.xz)) - (w64 (m.zz * m.xy)))))) ((w64 (((w64 (m.xy * m.yz)) - (w64 (m.xz * m.yy)))))) ((w64 (((w64 (m.yz * m.zx)) - (w64 (m.yx * m.zz)))))) ((w64 (((w64 (m.zz * m.xx)) - (w64 (m.zx * m.xz)))))) ((w64 (((w64 (m.xz * m.yx)) - (w64 (m.xx * m.yz)))))) ((w64 (((w64 (m.yx * m.zy)) - (w64 (m.yy * m.zx)))))) ((w64 (((w64 (m.zx * m.xy)) - (w64 (m.zy * m.xx)))))) ((w64 (((w64 (m.xx * m.yy)) - (w64 (m.xy * m.yx))))))), ()) = (wM (adjZ m), ())
theorem r_rAdjugate (x : HL C_rAdjugate.args) : runs (env [] []) 400 103 C_rAdjugate x = T_rAdjugate x.1 := by kernel_rfl
theorem p_rAdjugate (m : M3) (h0 : (Sh.agg .mat).okA m) : T_rAdjugate m := by
  simp only [T_rAdjugate, wM, adjZ, Int.zero_add, and_self, w64_add_l, w64_add_r, w64_sub_l, w64_sub_r, w64_mul_l, w64_mul_r, w64_w64]
theorem s_rAdjugate : Sound Try.prog 103 C_rAdjugate :=
  sound_of_eq (env_ok (.nil)) (fun x => T_rAdjugate x.1) r_rAdjugate fun x ok hp => p_rAdjugate x.1 ok.1
end Go.Fx
