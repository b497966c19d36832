/-
  Contracts: cof00, cof01, cof02, cof10, cof11, cof12, cof20, cof21, cof22, check, mul, Compare, Identity, Mul, det.
-/
import Derived.Test.YtcadkndjcneedaaGreatK0
namespace Go.Fx
open Go Go.Proofs
set_option maxRecDepth 100000
set_option linter.unusedVariables false
set_option linter.unusedSimpArgs false
set_option linter.unusedSectionVars false
noncomputable def C_cof00 : Contract := { args := [.agg .mat, .lit .i64 0, .lit .i64 0], res := [.int .i64], pre := fun _ => True, F := fun x => ((w64 (cofZ x.1.yy x.1.zz x.1.yz x.1.zy) : Int), ()) }
def T_cof00 (m : M3) (i : Unit) (j : Unit) : Prop :=
  ((w64 (((w64 (m.yy * m.zz)) - (w64 (m.yz * m.zy))))), ()) = (w64 (cofZ m.yy m.zz m.yz m.zy), ())
theorem r_cof00 (x : HL C_cof00.args) : runs (env0 [] [] []) 400 125 C_cof00 x = T_cof00 x.1 x.2.1 x.2.2.1 := by kernel_rfl
theorem p_cof00 (m : M3) (i : Unit) (j : Unit) (h0 : (Sh.agg .mat).okA m) (h1 : (Sh.lit .i64 0).okA i) (h2 : (Sh.lit .i64 0).okA j) : T_cof00 m i j := by
  simp only [T_cof00, cofZ, Int.zero_add, and_self, w64_add_l, w64_add_r, w64_sub_l, w64_sub_r, w64_mul_l, w64_mul_r, w64_w64]
theorem s_cof00 : Sound Tryz.prog 125 C_cof00 :=
  sound_of_eq (env0_ok (.nil)) (fun x => T_cof00 x.1 x.2.1 x.2.2.1) r_cof00 fun x ok hp => p_cof00 x.1 x.2.1 x.2.2.1 ok.1 ok.2.1 ok.2.2.1
noncomputable def C_cof01 : Contract := { args := [.agg .mat, .lit .i64 0, .lit .i64 1], res := [.int .i64], pre := fun _ => True, F := fun x => ((w64 (cofZ x.1.yz x.1.zx x.1.yx x.1.zz) : Int), ()) }
def T_cof01 (m : M3) (i : Unit) (j : Unit) : Prop :=
  ((w64 (((w64 (m.yz * m.zx)) - (w64 (m.yx * m.zz))))), ()) = (w64 (cofZ m.yz m.zx m.yx m.zz), ())
theorem r_cof01 (x : HL C_cof01.args) : runs (env0 [] [] []) 400 125 C_cof01 x = T_cof01 x.1 x.2.1 x.2.2.1 := by kernel_rfl
theorem p_cof01 (m : M3) (i : Unit) (j : Unit) (h0 : (Sh.agg .mat).okA m) (h1 : (Sh.lit .i64 0).okA i) (h2 : (Sh.lit .i64 1).okA j) : T_cof01 m i j := by
  simp only [T_cof01, cofZ, Int.zero_add, and_self, w64_add_l, w64_add_r, w64_sub_l, w64_sub_r, w64_mul_l, w64_mul_r, w64_w64]
theorem s_cof01 : Sound Tryz.prog 125 C_cof01 :=
  sound_of_eq (env0_ok (.nil)) (fun x => T_cof01 x.1 x.2.1 x.2.2.1) r_cof01 fun x ok hp => p_cof01 x.1 x.2.1 x.2.2.1 ok.1 ok.2.1 ok.2.2.1
noncomputable def C_cof02 : Contract := { args := [.agg .mat, .lit .i64 0, .lit .i64 2], res := [.int .i64], pre := fun _ => True, F := fun x => ((w64 (cofZ x.1.yx x.1.zy x.1.yy x.1.zx) : Int), ()) }
def T_cof02 (m : M3) (i : Unit) (j : Unit) : Prop :=
  ((w64 (((w64 (m.yx * m.zy)) - (w64 (m.yy * m.zx))))), ()) = (w64 (cofZ m.yx m.zy m.yy m.zx), ())
theorem r_cof02 (x : HL C_cof02.args) : runs (env0 [] [] []) 400 125 C_cof02 x = T_cof02 x.1 x.2.1 x.2.2.1 := by kernel_rfl
theorem p_cof02 (m : M3) (i : Unit) (j : Unit) (h0 : (Sh.agg .mat).okA m) (h1 : (Sh.lit .i64 0).okA i) (h2 : (Sh.lit .i64 2).okA j) : T_cof02 m i j := by
  simp only [T_cof02, cofZ, Int.zero_add, and_self, w64_add_l, w64_add_r, w64_sub_l, w64_sub_r, w64_mul_l, w64_mul_r, w64_w64]
theorem s_cof02 : Sound Tryz.prog 125 C_cof02 :=
  sound_of_eq (env0_ok (.nil)) (fun x => T_cof02 x.1 x.2.1 x.2.2.1) r_cof02 fun x ok hp => p_cof02 x.1 x.2.1 x.2.2.1 ok.1 ok.2.1 ok.2.2.1
noncomputable def C_cof10 : Contract := { args := [.agg .mat, .lit .i64 1, .lit .i64 0], res := [.int .i64], pre := fun _ => True, F := fun x => ((w64 (cofZ x.1.zy x.1.xz x.1.zz x.1.xy) : Int), ()) }
def T_cof10 (m : M3) (i : Unit) (j : Unit) : Prop :=
  ((w64 (((w64 (m.zy * m.xz)) - (w64 (m.zz * m.xy))))), ()) = (w64 (cofZ m.zy m.xz m.zz m.xy), ())
noncomputable def C_cof11 : Contract := { args := [.agg .mat, .lit .i64 1, .lit .i64 1], res := [.int .i64], pre := fun _ => True, F := fun x => ((w64 (cofZ x.1.zz x.1.xx x.1.zx x.1.xz) : Int), ()) }
def T_cof11 (m : M3) (i : Unit) (j : Unit) : Prop :=
  ((w64 (((w64 (m.zz * m.xx)) - (w64 (m.zx * m.xz))))), ()) = (w64 (cofZ m.zz m.xx m.zx m.xz), ())
noncomputable def C_cof12 : Contract := { args := [.agg .mat, .lit .i64 1, .lit .i64 2], res := [.int .i64], pre := fun _ => True, F := fun x => ((w64 (cofZ x.1.zx x.1.xy x.1.zy x.1.xx) : Int), ()) }
def T_cof12 (m : M3) (i : Unit) (j : Unit) : Prop :=
  ((w64 (((w64 (m.zx * m.xy)) - (w64 (m.zy * m.xx))))), ()) = (w64 (cofZ m.zx m.xy m.zy m.xx), ())
noncomputable def C_cof20 : Contract := { args := [.agg .mat, .lit .i64 2, .lit .i64 0], res := [.int .i64], pre := fun _ => True, F := fun x => ((w64 (cofZ x.1.xy x.1.yz x.1.xz x.1.yy) : Int), ()) }
def T_cof20 (m : M3) (i : Unit) (j : Unit) : Prop :=
  ((w64 (((w64 (m.xy * m.yz)) - (w64 (m.xz * m.yy))))), ()) = (w64 (cofZ m.xy m.yz m.xz m.yy), ())
noncomputable def C_cof21 : Contract := { args := [.agg .mat, .lit .i64 2, .lit .i64 1], res := [.int .i64], pre := fun _ => True, F := fun x => ((w64 (cofZ x.1.xz x.1.yx x.1.xx x.1.yz) : Int), ()) }
def T_cof21 (m : M3) (i : Unit) (j : Unit) : Prop :=
  ((w64 (((w64 (m.xz * m.yx)) - (w64 (m.xx * m.yz))))), ()) = (w64 (cofZ m.xz m.yx m.xx m.yz), ())
noncomputable def C_cof22 : Contract := { args := [.agg .mat, .lit .i64 2, .lit .i64 2], res := [.int .i64], pre := fun _ => True, F := fun x => ((w64 (cofZ x.1.xx x.1.yy x.1.xy x.1.yx) : Int), ()) }
def T_cof22 (m : M3) (i : Unit) (j : Unit) : Prop :=
  ((w64 (((w64 (m.xx * m.yy)) - (w64 (m.xy * m.yx))))), ()) = (w64 (cofZ m.xx m.yy m.xy m.yx), ())
noncomputable def C_check : Contract := { args := [.agg .mat], res := [.int .i64], pre := fun _ => True, F := fun x => ((errM x.1 : Int), ()) }
def T_check (m : M3) : Prop :=
  (((decide (m.xx < (-1000))) = true →
 (4, ()) = (errM m, ())) ∧
((decide (m.xx < (-1000))) = false →
(((decide (1000 < m.xx)) = true →
 (4, ()) = (errM m, ())) ∧
((decide (1000 < m.xx)) = false →
(((decide (m.xy < (-1000))) = true →
 (4, ()) = (errM m, ())) ∧
((decide (m.xy < (-1000))) = false →
(((decide (1000 < m.xy)) = true →
 (4, ()) = (errM m, ())) ∧
((decide (1000 < m.xy)) = false →
(((decide (m.xz < (-1000))) = true →
 (4, ()) = (errM m, ())) ∧
((decide (m.xz < (-1000))) = false →
(((decide (1000 < m.xz)) = true →
 (4, ()) = (errM m, ())) ∧
((decide (1000 < m.xz)) = false →
(((decide (m.yx < (-1000))) = true →
 (4, ()) = (errM m, ())) ∧
((decide (m.yx < (-1000))) = false →
(((decide (1000 < m.yx)) = true →
 (4, ()) = (errM m, ())) ∧
((decide (1000 < m.yx)) = false →
(((decide (m.yy < (-1000))) = true →
 (4, ()) = (errM m, ())) ∧
((decide (m.yy < (-1000))) = false →
(((decide (1000 < m.yy)) = true →
 (4, ()) = (errM m, ())) ∧
((decide (1000 < m.yy)) = false →
(((decide (m.yz < (-1000))) = true →
 (4, ()) = (errM m, ())) ∧
((decide (m.yz < (-1000))) = false →
(((decide (1000 < m.yz)) = true →
 (4, ()) = (errM m, ())) ∧
((decide (1000 < m.yz)) = false →
(((decide (m.zx < (-1000))) = true →
 (4, ()) = (errM m, ())) ∧
((decide (m.zx < (-1000))) = false →
(((decide (1000 < m.zx)) = true →
 (4, ()) = (errM m, ())) ∧
((decide (1000 < m.zx)) = false →
(((decide (m.zy < (-1000))) = true →
 (4, ()) = (errM m, ())) ∧
((decide (m.zy < (-1000))) = false →
(((decide (1000 < m.zy)) = true →
 (4, ()) = (errM m, ())) ∧
((decide (1000 < m.zy)) = false →
(((decide (m.zz < (-1000))) = true →
 (4, ()) = (errM m, ())) ∧
((decide (m.zz < (-1000))) = false →
(((decide (1000 < m.zz)) = true →
 (4, ()) = (errM m, ())) ∧
((decide (1000 < m.zz)) = false →
(0, ()) = (errM m, ())))))))))))))))))))))))))))))))))))))
theorem r_check (x : HL C_check.args) : runs (env0 [] [] []) 400 94 C_check x = T_check x.1 := by kernel_rfl
theorem p_check (m : M3) (h0 : (Sh.agg .mat).okA m) : T_check m := by
  simp only [T_check, decide_eq_true_eq, decide_eq_false_iff_not]
  repeat' (first | apply And.intro | intro _ | exact trivial)
  all_goals simp only [errM, okM, inE, Bool.and_eq_true, decide_eq_true_eq]
  all_goals first | rw [if_neg (by omega)] | rw [if_pos (by omega)]
theorem s_check : Sound Tryz.prog 94 C_check :=
  sound_of_eq (env0_ok (.nil)) (fun x => T_check x.1) r_check fun x ok hp => p_check x.1 ok.1
noncomputable def C_mul : Contract := { args := [.agg .mat, .agg .mat], res := [.agg .mat], pre := fun _ => True, F := fun x => ((wM (mulZ x.1 x.2.1) : M3), ()) }
def T_mul (a : M3) (b : M3) : Prop :=
  ((M3.mk ((w64 (((w64 (((w64 (a.xx * b.xx)) + (w64 (a.xy * b.yx))))) + (w64 (a.xz * b.zx)))))) ((w64 (((w64 (((w64 (a.xx * b.xy)) + (w64 (a.xy * b.yy))))) + (w64 (a.xz * b.zy)))))) ((w64 (((w64 (((w64 (a.xx * b.xz)) + (w64 (a.xy * b.yz))))) + (w64 (a.xz * b.zz)))))) ((w64 (((w64 (((w64 (a.yx * b.xx)) + (w64 (a.yy * b.yx))))) + (w64 (a.yz * b.zx)))))) ((w64 (((w64 (((w64 (a.yx * b.xy)) + (w64 (a.yy * b.yy))))) + (w64 (a.yz * b.zy)))))) ((w64 (((w64 (((w64 (a.yx * b.xz)) + (w64 (a.yy * b.yz))))) + (w64 (a.yz * b.zz)))))) ((w64 (((w64 (((w64 (a.zx * b.xx)) + (w64 (a.zy * b.yx))))) + (w64 (a.zz * b.zx)))))) ((w64 (((w64 (((w64 (a.zx * b.xy)) + (w64 (a.zy * b.yy))))) + (w64 (a.zz * b.zy)))))) ((w64 (((w64 (((w64 (a.zx * b.xz)) + (w64 (a.zy * b.yz))))) + (w64 (a.zz * b.zz))))))), ()) = (wM (mulZ a b), ())
theorem r_mul (x : HL C_mul.args) : runs (env0 [] [] []) 400 114 C_mul x = T_mul x.1 x.2.1 := by kernel_rfl
theorem p_mul (a : M3) (b : M3) (h0 : (Sh.agg .mat).okA a) (h1 : (Sh.agg .mat).okA b) : T_mul a b := by
  simp only [T_mul, wM, mulZ, Int.zero_add, and_self, w64_add_l, w64_add_r, w64_sub_l, w64_sub_r, w64_mul_l, w64_mul_r, w64_w64]
theorem s_mul : Sound Tryz.prog 114 C_mul :=
  sound_of_eq (env0_ok (.nil)) (fun x => T_mul x.1 x.2.1) r_mul fun x ok hp => p_mul x.1 x.2.1 ok.1 ok.2.1
noncomputable def C_Compare : Contract := { args := [.agg .mat, .agg .mat], res := [.int .i64], pre := fun _ => True, F := fun x => ((cmpM x.1 x.2.1 : Int), ()) }
def T_Compare (a : M3) (b : M3) : Prop :=
  (((decide (a.xx < b.xx)) = true →
 ((-1), ()) = (cmpM a b, ())) ∧
((decide (a.xx < b.xx)) = false →
(((decide (b.xx < a.xx)) = true →
 (1, ()) = (cmpM a b, ())) ∧
((decide (b.xx < a.xx)) = false →
(((decide (a.xy < b.xy)) = true →
 ((-1), ()) = (cmpM a b, ())) ∧
((decide (a.xy < b.xy)) = false →
(((decide (b.xy < a.xy)) = true →
 (1, ()) = (cmpM a b, ())) ∧
((decide (b.xy < a.xy)) = false →
(((decide (a.xz < b.xz)) = true →
 ((-1), ()) = (cmpM a b, ())) ∧
((decide (a.xz < b.xz)) = false →
(((decide (b.xz < a.xz)) = true →
 (1, ()) = (cmpM a b, ())) ∧
((decide (b.xz < a.xz)) = false →
(((decide (a.yx < b.yx)) = true →
 ((-1), ()) = (cmpM a b, ())) ∧
((decide (a.yx < b.yx)) = false →
(((decide (b.yx < a.yx)) = true →
 (1, ()) = (cmpM a b, ())) ∧
((decide (b.yx < a.yx)) = false →
(((decide (a.yy < b.yy)) = true →
 ((-1), ()) = (cmpM a b, ())) ∧
((decide (a.yy < b.yy)) = false →
(((decide (b.yy < a.yy)) = true →
 (1, ()) = (cmpM a b, ())) ∧
((decide (b.yy < a.yy)) = false →
(((decide (a.yz < b.yz)) = true →
 ((-1), ()) = (cmpM a b, ())) ∧
((decide (a.yz < b.yz)) = false →
(((decide (b.yz < a.yz)) = true →
 (1, ()) = (cmpM a b, ())) ∧
((decide (b.yz < a.yz)) = false →
(((decide (a.zx < b.zx)) = true →
 ((-1), ()) = (cmpM a b, ())) ∧
((decide (a.zx < b.zx)) = false →
(((decide (b.zx < a.zx)) = true →
 (1, ()) = (cmpM a b, ())) ∧
((decide (b.zx < a.zx)) = false →
(((decide (a.zy < b.zy)) = true →
 ((-1), ()) = (cmpM a b, ())) ∧
((decide (a.zy < b.zy)) = false →
(((decide (b.zy < a.zy)) = true →
 (1, ()) = (cmpM a b, ())) ∧
((decide (b.zy < a.zy)) = false →
(((decide (a.zz < b.zz)) = true →
 ((-1), ()) = (cmpM a b, ())) ∧
((decide (a.zz < b.zz)) = false →
(((decide (b.zz < a.zz)) = true →
 (1, ()) = (cmpM a b, ())) ∧
((decide (b.zz < a.zz)) = false →
(0, ()) = (cmpM a b, ())))))))))))))))))))))))))))))))))))))
theorem r_Compare (x : HL C_Compare.args) : runs (env0 [] [] []) 400 71 C_Compare x = T_Compare x.1 x.2.1 := by kernel_rfl
theorem p_Compare (a : M3) (b : M3) (h0 : (Sh.agg .mat).okA a) (h1 : (Sh.agg .mat).okA b) : T_Compare a b := by
  simp only [T_Compare, decide_eq_true_eq, decide_eq_false_iff_not]
  repeat' (first | apply And.intro | intro _ | exact trivial)
  all_goals simp [cmpM, cmpE, *]
theorem s_Compare : Sound Tryz.prog 71 C_Compare :=
  sound_of_eq (env0_ok (.nil)) (fun x => T_Compare x.1 x.2.1) r_Compare fun x ok hp => p_Compare x.1 x.2.1 ok.1 ok.2.1
noncomputable def C_Identity : Contract := { args := [], res := [.agg .mat], pre := fun _ => True, F := fun x => ((oneZ 1 : M3), ()) }
def T_Identity  : Prop :=
  ((M3.mk 1 0 0 0 1 0 0 0 1), ()) = (oneZ 1, ())
theorem r_Identity (x : HL C_Identity.args) : runs (env0 [] [] []) 400 43 C_Identity x = T_Identity  := by kernel_rfl
theorem p_Identity   : T_Identity  := by
  rfl
theorem s_Identity : Sound Tryz.prog 43 C_Identity :=
  sound_of_eq (env0_ok (.nil)) (fun x => T_Identity ) r_Identity fun x ok hp => p_Identity  
noncomputable def C_Mul : Contract := { args := [.agg .mat, .agg .mat], res := [.agg .mat, .int .i64], pre := fun _ => True, F := fun x => ((selM (err2 (errM x.1) (errM x.2.1)) (wM (mulZ x.1 x.2.1)) : M3), (err2 (errM x.1) (errM x.2.1) : Int), ()) }
def T_Mul (a : M3) (b : M3) : Prop :=
  (True ∧
(((!(decide (errM a = 0))) = true →
 ((M3.mk 0 0 0 0 0 0 0 0 0), (4, ())) = (selM (err2 (errM a) (errM b)) (wM (mulZ a b)), (err2 (errM a) (errM b), ()))) ∧
((!(decide (errM a = 0))) = false →
(True ∧
(((!(decide (errM b = 0))) = true →
 ((M3.mk 0 0 0 0 0 0 0 0 0), (4, ())) = (selM (err2 (errM a) (errM b)) (wM (mulZ a b)), (err2 (errM a) (errM b), ()))) ∧
((!(decide (errM b = 0))) = false →
(True ∧
(wM (mulZ a b), (0, ())) = (selM (err2 (errM a) (errM b)) (wM (mulZ a b)), (err2 (errM a) (errM b), ())))))))))
theorem r_Mul (x : HL C_Mul.args) : runs (env0 [(94, C_check), (114, C_mul)] [] []) 400 95 C_Mul x = T_Mul x.1 x.2.1 := by kernel_rfl
theorem p_Mul (a : M3) (b : M3) (h0 : (Sh.agg .mat).okA a) (h1 : (Sh.agg .mat).okA b) : T_Mul a b := by
  rcases errM_cases a with ha | ha <;> rcases errM_cases b with hb | hb <;> simp [T_Mul, ha, hb, err2, selM]
theorem s_Mul : Sound Tryz.prog 95 C_Mul :=
  sound_of_eq (env0_ok (.cons s_check (.cons s_mul (.nil)))) (fun x => T_Mul x.1 x.2.1) r_Mul fun x ok hp => p_Mul x.1 x.2.1 ok.1 ok.2.1
noncomputable def C_det : Contract := { args := [.agg .mat], res := [.int .i64], pre := fun _ => True, F := fun x => ((w64 (detZ x.1) : Int), ()) }
def T_det (m : M3) : Prop :=
  (True ∧
(True ∧
(True ∧
((w64 (((w64 (((w64 ((m.xx * w64 (cofZ m.yy m.zz m.yz m.zy)))) + (w64 ((m.xy * w64 (cofZ m.yz m.zx m.yx m.zz))))))) + (w64 ((m.xz * w64 (cofZ m.yx m.zy m.yy m.zx))))))), ()) = (w64 (detZ m), ()))))
theorem r_det (x : HL C_det.args) : runs (env0 [(125, C_cof00), (125, C_cof01), (125, C_cof02)] [] []) 400 123 C_det x = T_det x.1 := by kernel_rfl
theorem p_det (m : M3) (h0 : (Sh.agg .mat).okA m) : T_det m := by
  simp only [T_det, detZ, cofZ, Int.zero_add, and_self, w64_add_l, w64_add_r, w64_sub_l, w64_sub_r, w64_mul_l, w64_mul_r, w64_w64]
theorem s_det : Sound Tryz.prog 123 C_det :=
  sound_of_eq (env0_ok (.cons s_cof00 (.cons s_cof01 (.cons s_cof02 (.nil))))) (fun x => T_det x.1) r_det fun x ok hp => p_det x.1 ok.1
end Go.Fx
