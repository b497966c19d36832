/-
  Contracts: OpMakes, OpMuls, OpPowers, OpApplies, OpOrders.
-/
import Derived.Test.YthljaepanhdmiaaK14
namespace Go.Fx
open Go Go.Proofs
set_option maxRecDepth 100000
set_option linter.unusedVariables false
noncomputable def C_OpMakes : Contract := { args := [.agg .mat, .agg .vec], res := [.bool], pre := fun _ => True, F := fun x => ((true : Bool), ()) }
def T_OpMakes (r : M3) (t : V3) : Prop :=
  (True ∧
(((!true) = true →
 (false, ()) = (true, ())) ∧
((!true) = false →
(True ∧
∀ z3 : Op3,
(z3 = selO (uniE r) ((Op3.mk r (modV 24 t))) →
∀ z5 : Int,
(z5 = uniE r →
(True ∧
∀ z7 : Op3,
(z7 = selO (uniE r) ((Op3.mk r (modV 24 t))) →
∀ z9 : Int,
(z9 = uniE r →
((((decide (z3.R.xx = z7.R.xx)) && ((decide (z3.R.xy = z7.R.xy)) && ((decide (z3.R.xz = z7.R.xz)) && ((decide (z3.R.yx = z7.R.yx)) && ((decide (z3.R.yy = z7.R.yy)) && ((decide (z3.R.yz = z7.R.yz)) && ((decide (z3.R.zx = z7.R.zx)) && ((decide (z3.R.zy = z7.R.zy)) && ((decide (z3.R.zz = z7.R.zz)) && ((decide (z3.T.x = z7.T.x)) && ((decide (z3.T.y = z7.T.y)) && ((decide (z3.T.z = z7.T.z)) && true)))))))))))) = true →
 (((decide (z5 = z9)) = true →
  (True ∧
  (True ∧
  (((nilE (Op3.mk r t) == (decide (errO (Op3.mk r t) = 0))) = true →
   (((!(decide (z5 = 0))) = true →
    (True ∧
    (True ∧
    (((decide (oneO.R.xx = oneO.R.xx)) && ((decide (oneO.R.xy = oneO.R.xy)) && ((decide (oneO.R.xz = oneO.R.xz)) && ((decide (oneO.R.yx = oneO.R.yx)) && ((decide (oneO.R.yy = oneO.R.yy)) && ((decide (oneO.R.yz = oneO.R.yz)) && ((decide (oneO.R.zx = oneO.R.zx)) && ((decide (oneO.R.zy = oneO.R.zy)) && ((decide (oneO.R.zz = oneO.R.zz)) && ((decide (oneO.T.x = oneO.T.x)) && ((decide (oneO.T.y = oneO.T.y)) && ((decide (oneO.T.z = oneO.T.z)) && true)))))))))))), ()) = (true, ())))) ∧
   ((!(decide (z5 = 0))) = false →
   (True ∧
   ((nilE z3 = true →
    (True ∧
    (True ∧
    (((decide (oneO.R.xx = oneO.R.xx)) && ((decide (oneO.R.xy = oneO.R.xy)) && ((decide (oneO.R.xz = oneO.R.xz)) && ((decide (oneO.R.yx = oneO.R.yx)) && ((decide (oneO.R.yy = oneO.R.yy)) && ((decide (oneO.R.yz = oneO.R.yz)) && ((decide (oneO.R.zx = oneO.R.zx)) && ((decide (oneO.R.zy = oneO.R.zy)) && ((decide (oneO.R.zz = oneO.R.zz)) && ((decide (oneO.T.x = oneO.T.x)) && ((decide (oneO.T.y = oneO.T.y)) && ((decide (oneO.T.z = oneO.T.z)) && true)))))))))))), ()) = (true, ())))) ∧
   (nilE z3 = false →
   (false, ()) = (true, ()))))))) ∧
  ((nilE (Op3.mk r t) == (decide (errO (Op3.mk r t) = 0))) = false →
  (false, ()) = (true, ())))))) ∧
 ((decide (z5 = z9)) = false →
 (false, ()) = (true, ())))) ∧
(((decide (z3.R.xx = z7.R.xx)) && ((decide (z3.R.xy = z7.R.xy)) && ((decide (z3.R.xz = z7.R.xz)) && ((decide (z3.R.yx = z7.R.yx)) && ((decide (z3.R.yy = z7.R.yy)) && ((decide (z3.R.yz = z7.R.yz)) && ((decide (z3.R.zx = z7.R.zx)) && ((decide (z3.R.zy = z7.R.zy)) && ((decide (z3.R.zz = z7.R.zz)) && ((decide (z3.T.x = z7.T.x)) && ((decide (z3.T.y = z7.T.y)) && ((decide (z3.T.z = z7.T.z)) && true)))))))))))) = false →
(false, ()) = (true, ()))))))))))))
theorem r_OpMakes (x : HL C_OpMakes.args) : runs (env [(12, C_awake3), (17, C_opMake.hid), (18, C_r3DocMake.hid), (19, C_opForm.hid), (20, C_r3Check.hid), (21, C_opOne), (22, C_r3One)] []) 400 4 C_OpMakes x = T_OpMakes x.1 x.2.1 := by kernel_rfl
theorem p_OpMakes (r : M3) (t : V3) (h0 : (Sh.agg .mat).okA r) (h1 : (Sh.agg .vec).okA t) : T_OpMakes r t := by
  have e1 : ∀ x : Op3, nilE x = decide (errO x = 0) := fun x => by unfold nilE; rw [errL_one]
  have e2 : errO (Op3.mk r (modV 24 t)) = uniE r := by unfold errO; rw [if_pos (inT_mod t)]
  by_cases hu : uniE r = 0 <;> by_cases hr : errO (Op3.mk r t) = 0 <;> simp [T_OpMakes, e1, e2, hu, hr, selO]
theorem s_OpMakes : Sound Try.prog 4 C_OpMakes :=
  sound_of_eq (env_ok (.cons s_awake3 (.cons s_opMake.hid (.cons s_r3DocMake.hid (.cons s_opForm.hid (.cons s_r3Check.hid (.cons s_opOne (.cons s_r3One (.nil))))))))) (fun x => T_OpMakes x.1 x.2.1) r_OpMakes fun x ok hp => p_OpMakes x.1 x.2.1 ok.1 ok.2.1
noncomputable def C_OpMuls : Contract := { args := [.agg .op, .agg .op], res := [.bool], pre := fun _ => True, F := fun x => ((true : Bool), ()) }
def T_OpMuls (a : Op3) (b : Op3) : Prop :=
  (True ∧
(((!true) = true →
 (false, ()) = (true, ())) ∧
((!true) = false →
(True ∧
∀ z3 : Op3,
(z3 = selO (mulE a b) (mulO a b) →
∀ z5 : Int,
(z5 = mulE a b →
(True ∧
∀ z7 : Op3,
(z7 = selO (mulE a b) (mulO a b) →
∀ z9 : Int,
(z9 = mulE a b →
(True ∧
∀ z11 : Op3,
(z11 = selO (invE a) (invO a) →
∀ z13 : Int,
(z13 = invE a →
(True ∧
∀ z15 : Op3,
(z15 = selO (invE a) (invO a) →
∀ z17 : Int,
(z17 = invE a →
((((decide (z3.R.xx = z7.R.xx)) && ((decide (z3.R.xy = z7.R.xy)) && ((decide (z3.R.xz = z7.R.xz)) && ((decide (z3.R.yx = z7.R.yx)) && ((decide (z3.R.yy = z7.R.yy)) && ((decide (z3.R.yz = z7.R.yz)) && ((decide (z3.R.zx = z7.R.zx)) && ((decide (z3.R.zy = z7.R.zy)) && ((decide (z3.R.zz = z7.R.zz)) && ((decide (z3.T.x = z7.T.x)) && ((decide (z3.T.y = z7.T.y)) && ((decide (z3.T.z = z7.T.z)) && true)))))))))))) = true →
 (((decide (z5 = z9)) = true →
  ((((decide (z11.R.xx = z15.R.xx)) && ((decide (z11.R.xy = z15.R.xy)) && ((decide (z11.R.xz = z15.R.xz)) && ((decide (z11.R.yx = z15.R.yx)) && ((decide (z11.R.yy = z15.R.yy)) && ((decide (z11.R.yz = z15.R.yz)) && ((decide (z11.R.zx = z15.R.zx)) && ((decide (z11.R.zy = z15.R.zy)) && ((decide (z11.R.zz = z15.R.zz)) && ((decide (z11.T.x = z15.T.x)) && ((decide (z11.T.y = z15.T.y)) && ((decide (z11.T.z = z15.T.z)) && true)))))))))))) = true →
   ((decide (z13 = z17)), ()) = (true, ())) ∧
  (((decide (z11.R.xx = z15.R.xx)) && ((decide (z11.R.xy = z15.R.xy)) && ((decide (z11.R.xz = z15.R.xz)) && ((decide (z11.R.yx = z15.R.yx)) && ((decide (z11.R.yy = z15.R.yy)) && ((decide (z11.R.yz = z15.R.yz)) && ((decide (z11.R.zx = z15.R.zx)) && ((decide (z11.R.zy = z15.R.zy)) && ((decide (z11.R.zz = z15.R.zz)) && ((decide (z11.T.x = z15.T.x)) && ((decide (z11.T.y = z15.T.y)) && ((decide (z11.T.z = z15.T.z)) && true)))))))))))) = false →
  (false, ()) = (true, ())))) ∧
 ((decide (z5 = z9)) = false →
 (false, ()) = (true, ())))) ∧
(((decide (z3.R.xx = z7.R.xx)) && ((decide (z3.R.xy = z7.R.xy)) && ((decide (z3.R.xz = z7.R.xz)) && ((decide (z3.R.yx = z7.R.yx)) && ((decide (z3.R.yy = z7.R.yy)) && ((decide (z3.R.yz = z7.R.yz)) && ((decide (z3.R.zx = z7.R.zx)) && ((decide (z3.R.zy = z7.R.zy)) && ((decide (z3.R.zz = z7.R.zz)) && ((decide (z3.T.x = z7.T.x)) && ((decide (z3.T.y = z7.T.y)) && ((decide (z3.T.z = z7.T.z)) && true)))))))))))) = false →
(false, ()) = (true, ()))))))))))))))))))
theorem r_OpMuls (x : HL C_OpMuls.args) : runs (env [(12, C_awake3), (23, C_opMul.hid), (24, C_r3DocMul.hid), (25, C_opInverse.hid), (26, C_r3DocInverse.hid)] []) 400 5 C_OpMuls x = T_OpMuls x.1 x.2.1 := by kernel_rfl
theorem p_OpMuls (a : Op3) (b : Op3) (h0 : (Sh.agg .op).okA a) (h1 : (Sh.agg .op).okA b) : T_OpMuls a b := by
  simp [T_OpMuls]
theorem s_OpMuls : Sound Try.prog 5 C_OpMuls :=
  sound_of_eq (env_ok (.cons s_awake3 (.cons s_opMul.hid (.cons s_r3DocMul.hid (.cons s_opInverse.hid (.cons s_r3DocInverse.hid (.nil))))))) (fun x => T_OpMuls x.1 x.2.1) r_OpMuls fun x ok hp => p_OpMuls x.1 x.2.1 ok.1 ok.2.1
noncomputable def C_OpPowers : Contract := { args := [.agg .op, .int .i64], res := [.bool], pre := fun _ => True, F := fun x => ((true : Bool), ()) }
def T_OpPowers (o : Op3) (n : Int) : Prop :=
  (True ∧
(((!true) = true →
 (false, ()) = (true, ())) ∧
((!true) = false →
(True ∧
∀ z3 : Op3,
(z3 = powO o n →
∀ z5 : Int,
(z5 = powE o n →
(True ∧
∀ z7 : Op3,
(z7 = powO o n →
∀ z9 : Int,
(z9 = powE o n →
((((decide (z3.R.xx = z7.R.xx)) && ((decide (z3.R.xy = z7.R.xy)) && ((decide (z3.R.xz = z7.R.xz)) && ((decide (z3.R.yx = z7.R.yx)) && ((decide (z3.R.yy = z7.R.yy)) && ((decide (z3.R.yz = z7.R.yz)) && ((decide (z3.R.zx = z7.R.zx)) && ((decide (z3.R.zy = z7.R.zy)) && ((decide (z3.R.zz = z7.R.zz)) && ((decide (z3.T.x = z7.T.x)) && ((decide (z3.T.y = z7.T.y)) && ((decide (z3.T.z = z7.T.z)) && true)))))))))))) = true →
 ((decide (z5 = z9)), ()) = (true, ())) ∧
(((decide (z3.R.xx = z7.R.xx)) && ((decide (z3.R.xy = z7.R.xy)) && ((decide (z3.R.xz = z7.R.xz)) && ((decide (z3.R.yx = z7.R.yx)) && ((decide (z3.R.yy = z7.R.yy)) && ((decide (z3.R.yz = z7.R.yz)) && ((decide (z3.R.zx = z7.R.zx)) && ((decide (z3.R.zy = z7.R.zy)) && ((decide (z3.R.zz = z7.R.zz)) && ((decide (z3.T.x = z7.T.x)) && ((decide (z3.T.y = z7.T.y)) && ((decide (z3.T.z = z7.T.z)) && true)))))))))))) = false →
(false, ()) = (true, ()))))))))))))
theorem r_OpPowers (x : HL C_OpPowers.args) : runs (env [(12, C_awake3), (29, C_opPower.hid), (30, C_r3DocPower.hid)] []) 400 8 C_OpPowers x = T_OpPowers x.1 x.2.1 := by kernel_rfl
theorem p_OpPowers (o : Op3) (n : Int) (h0 : (Sh.agg .op).okA o) (h1 : (Sh.int .i64).okA n) : T_OpPowers o n := by
  simp [T_OpPowers]
theorem s_OpPowers : Sound Try.prog 8 C_OpPowers :=
  sound_of_eq (env_ok (.cons s_awake3 (.cons s_opPower.hid (.cons s_r3DocPower.hid (.nil))))) (fun x => T_OpPowers x.1 x.2.1) r_OpPowers fun x ok hp => p_OpPowers x.1 x.2.1 ok.1 ok.2.1
noncomputable def C_OpApplies : Contract := { args := [.agg .op, .agg .pt], res := [.bool], pre := fun _ => True, F := fun x => ((true : Bool), ()) }
def T_OpApplies (o : Op3) (p : Pt) : Prop :=
  (True ∧
(((!true) = true →
 (false, ()) = (true, ())) ∧
((!true) = false →
(True ∧
∀ z3 : Pt,
(z3 = appP o p →
∀ z5 : Int,
(z5 = appE o p →
(True ∧
∀ z7 : Pt,
(z7 = appP o p →
∀ z9 : Int,
(z9 = appE o p →
((((decide (z3.M = z7.M)) && ((decide (z3.X.x = z7.X.x)) && ((decide (z3.X.y = z7.X.y)) && ((decide (z3.X.z = z7.X.z)) && true)))) = true →
 ((decide (z5 = z9)), ()) = (true, ())) ∧
(((decide (z3.M = z7.M)) && ((decide (z3.X.x = z7.X.x)) && ((decide (z3.X.y = z7.X.y)) && ((decide (z3.X.z = z7.X.z)) && true)))) = false →
(false, ()) = (true, ()))))))))))))
theorem r_OpApplies (x : HL C_OpApplies.args) : runs (env [(12, C_awake3), (31, C_opApply.hid), (32, C_r3DocApply.hid)] []) 400 9 C_OpApplies x = T_OpApplies x.1 x.2.1 := by kernel_rfl
theorem p_OpApplies (o : Op3) (p : Pt) (h0 : (Sh.agg .op).okA o) (h1 : (Sh.agg .pt).okA p) : T_OpApplies o p := by
  simp [T_OpApplies]
theorem s_OpApplies : Sound Try.prog 9 C_OpApplies :=
  sound_of_eq (env_ok (.cons s_awake3 (.cons s_opApply.hid (.cons s_r3DocApply.hid (.nil))))) (fun x => T_OpApplies x.1 x.2.1) r_OpApplies fun x ok hp => p_OpApplies x.1 x.2.1 ok.1 ok.2.1
noncomputable def C_OpOrders : Contract := { args := [.agg .op], res := [.bool], pre := fun _ => True, F := fun x => ((true : Bool), ()) }
def T_OpOrders (o : Op3) : Prop :=
  (True ∧
(((!true) = true →
 (false, ()) = (true, ())) ∧
((!true) = false →
(True ∧
∀ z2 : Int,
(z2 = oroZ o →
∀ z4 : Int,
(z4 = oroE o →
(True ∧
∀ z6 : Int,
(z6 = droZ o →
∀ z8 : Int,
(z8 = droE o →
(True ∧
∀ z10 : Int,
(z10 = kinZ o →
∀ z12 : Int,
(z12 = kinE o →
(True ∧
∀ z14 : Int,
(z14 = dkiZ o →
∀ z16 : Int,
(z16 = dkiE o →
(((decide (z2 = z6)) = true →
 (((decide (z4 = z8)) = true →
  (((decide (z10 = z14)) = true →
   ((decide (z12 = z16)), ()) = (true, ())) ∧
  ((decide (z10 = z14)) = false →
  (false, ()) = (true, ())))) ∧
 ((decide (z4 = z8)) = false →
 (false, ()) = (true, ())))) ∧
((decide (z2 = z6)) = false →
(false, ()) = (true, ()))))))))))))))))))
theorem r_OpOrders (x : HL C_OpOrders.args) : runs (env [(12, C_awake3), (13, C_opOrder.hid), (14, C_r3DocOrder.hid), (15, C_opKind.hid), (16, C_r3DocKind.hid)] []) 400 3 C_OpOrders x = T_OpOrders x.1 := by kernel_rfl
theorem p_OpOrders (o : Op3) (h0 : (Sh.agg .op).okA o) : T_OpOrders o := by
  obtain ⟨e1, e2⟩ := dro_oro o
  obtain ⟨e3, e4⟩ := dki_kin o
  simp [T_OpOrders, e1, e2, e3, e4]
theorem s_OpOrders : Sound Try.prog 3 C_OpOrders :=
  sound_of_eq (env_ok (.cons s_awake3 (.cons s_opOrder.hid (.cons s_r3DocOrder.hid (.cons s_opKind.hid (.cons s_r3DocKind.hid (.nil))))))) (fun x => T_OpOrders x.1) r_OpOrders fun x ok hp => p_OpOrders x.1 ok.1
end Go.Fx
