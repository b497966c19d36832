/-
  Contracts: BasisChanges, BasisThings, BasisMetrics.
-/
import Derived.Test.YtkchandelfmoaaaK10
namespace Go.Fx
open Go Go.Proofs
set_option maxRecDepth 100000
set_option linter.unusedVariables false
noncomputable def C_BasisChanges : Contract := { args := [.agg .chg, .agg .chg], res := [.bool], pre := fun _ => True, F := fun x => ((true : Bool), ()) }
def T_BasisChanges (a : Chg) (b : Chg) : Prop :=
  (True ∧
(True ∧
(True ∧
(True ∧
∀ z2 : Chg,
(z2 = selC (behE a b) (behC a b) →
∀ z4 : Int,
(z4 = behE a b →
(True ∧
(True ∧
∀ z6 : Chg,
(z6 = selC (bakE a) (bakC a) →
∀ z8 : Int,
(z8 = bakE a →
(True ∧
∀ z10 : Chg,
(z10 = selC (bakE a) (bakC a) →
∀ z12 : Int,
(z12 = bakE a →
(True ∧
((true = true →
 (True ∧
 ((eqC ((selC (behE a b) (behC a b))) z2 = true →
  (((decide (behE a b = z4)) = true →
   (True ∧
   ((eqC z6 z10 = true →
    ((decide (z8 = z12)), ()) = (true, ())) ∧
   (eqC z6 z10 = false →
   (false, ()) = (true, ()))))) ∧
  ((decide (behE a b = z4)) = false →
  (false, ()) = (true, ())))) ∧
 (eqC ((selC (behE a b) (behC a b))) z2 = false →
 (false, ()) = (true, ()))))) ∧
(true = false →
(false, ()) = (true, ())))))))))))))))))
theorem r_BasisChanges (x : HL C_BasisChanges.args) : runs (env [(11, C_f7of), (20, C_f7same), (13, C_awake7), (16, C_bBehind.hid), (18, C_bBack.hid), (17, C_f7DocBehind.hid), (19, C_f7DocBack.hid)] []) 400 5 C_BasisChanges x = T_BasisChanges x.1 x.2.1 := by kernel_rfl
theorem p_BasisChanges (a : Chg) (b : Chg) (h0 : (Sh.agg .chg).okA a) (h1 : (Sh.agg .chg).okA b) : T_BasisChanges a b := by
  simp [T_BasisChanges, eqC_refl]
theorem s_BasisChanges : Sound Try.prog 5 C_BasisChanges :=
  sound_of_eq (env_ok (.cons s_f7of (.cons s_f7same (.cons s_awake7 (.cons s_bBehind.hid (.cons s_bBack.hid (.cons s_f7DocBehind.hid (.cons s_f7DocBack.hid (.nil))))))))) (fun x => T_BasisChanges x.1 x.2.1) r_BasisChanges fun x ok hp => p_BasisChanges x.1 x.2.1 ok.1 ok.2.1
noncomputable def C_BasisThings : Contract := { args := [.agg .chg, .agg .pt, .agg .op, .agg .vec], res := [.bool], pre := fun _ => True, F := fun x => ((true : Bool), ()) }
def T_BasisThings (c : Chg) (p : Pt) (o : Op3) (h : V3) : Prop :=
  (True ∧
(True ∧
(True ∧
∀ z4 : Pt,
(z4 = pntP c p →
∀ z6 : Int,
(z6 = pntE c p →
(True ∧
(True ∧
(True ∧
∀ z8 : Op3,
(z8 = bopO c o →
∀ z10 : Int,
(z10 = bopE c o →
(True ∧
(True ∧
(True ∧
∀ z12 : V3,
(z12 = idxV c h →
∀ z14 : Int,
(z14 = idxE c h →
(True ∧
((true = true →
 ((((decide ((pntP c p).M = z4.M)) && ((decide (((pntP c p).X).x = z4.X.x)) && ((decide (((pntP c p).X).y = z4.X.y)) && ((decide (((pntP c p).X).z = z4.X.z)) && true)))) = true →
  (((decide (pntE c p = z6)) = true →
   ((((decide (((bopO c o).R).xx = z8.R.xx)) && ((decide (((bopO c o).R).xy = z8.R.xy)) && ((decide (((bopO c o).R).xz = z8.R.xz)) && ((decide (((bopO c o).R).yx = z8.R.yx)) && ((decide (((bopO c o).R).yy = z8.R.yy)) && ((decide (((bopO c o).R).yz = z8.R.yz)) && ((decide (((bopO c o).R).zx = z8.R.zx)) && ((decide (((bopO c o).R).zy = z8.R.zy)) && ((decide (((bopO c o).R).zz = z8.R.zz)) && ((decide (((bopO c o).T).x = z8.T.x)) && ((decide (((bopO c o).T).y = z8.T.y)) && ((decide (((bopO c o).T).z = z8.T.z)) && true)))))))))))) = true →
    (((decide (bopE c o = z10)) = true →
     ((((decide ((idxV c h).x = z12.x)) && ((decide ((idxV c h).y = z12.y)) && ((decide ((idxV c h).z = z12.z)) && true))) = true →
      ((decide (idxE c h = z14)), ()) = (true, ())) ∧
     (((decide ((idxV c h).x = z12.x)) && ((decide ((idxV c h).y = z12.y)) && ((decide ((idxV c h).z = z12.z)) && true))) = false →
     (false, ()) = (true, ())))) ∧
    ((decide (bopE c o = z10)) = false →
    (false, ()) = (true, ())))) ∧
   (((decide (((bopO c o).R).xx = z8.R.xx)) && ((decide (((bopO c o).R).xy = z8.R.xy)) && ((decide (((bopO c o).R).xz = z8.R.xz)) && ((decide (((bopO c o).R).yx = z8.R.yx)) && ((decide (((bopO c o).R).yy = z8.R.yy)) && ((decide (((bopO c o).R).yz = z8.R.yz)) && ((decide (((bopO c o).R).zx = z8.R.zx)) && ((decide (((bopO c o).R).zy = z8.R.zy)) && ((decide (((bopO c o).R).zz = z8.R.zz)) && ((decide (((bopO c o).T).x = z8.T.x)) && ((decide (((bopO c o).T).y = z8.T.y)) && ((decide (((bopO c o).T).z = z8.T.z)) && true)))))))))))) = false →
   (false, ()) = (true, ())))) ∧
  ((decide (pntE c p = z6)) = false →
  (false, ()) = (true, ())))) ∧
 (((decide ((pntP c p).M = z4.M)) && ((decide (((pntP c p).X).x = z4.X.x)) && ((decide (((pntP c p).X).y = z4.X.y)) && ((decide (((pntP c p).X).z = z4.X.z)) && true)))) = false →
 (false, ()) = (true, ())))) ∧
(true = false →
(false, ()) = (true, ())))))))))))))))))))
theorem r_BasisThings (x : HL C_BasisThings.args) : runs (env [(11, C_f7of), (13, C_awake7), (15, C_bPoint.hid), (22, C_bOp.hid), (14, C_bIndex.hid), (21, C_f7DocPoint.hid), (23, C_f7DocOp.hid), (24, C_f7DocIndex.hid)] []) 400 6 C_BasisThings x = T_BasisThings x.1 x.2.1 x.2.2.1 x.2.2.2.1 := by kernel_rfl
theorem p_BasisThings (c : Chg) (p : Pt) (o : Op3) (h : V3) (h0 : (Sh.agg .chg).okA c) (h1 : (Sh.agg .pt).okA p) (h2 : (Sh.agg .op).okA o) (h3 : (Sh.agg .vec).okA h) : T_BasisThings c p o h := by
  simp [T_BasisThings]
theorem s_BasisThings : Sound Try.prog 6 C_BasisThings :=
  sound_of_eq (env_ok (.cons s_f7of (.cons s_awake7 (.cons s_bPoint.hid (.cons s_bOp.hid (.cons s_bIndex.hid (.cons s_f7DocPoint.hid (.cons s_f7DocOp.hid (.cons s_f7DocIndex.hid (.nil)))))))))) (fun x => T_BasisThings x.1 x.2.1 x.2.2.1 x.2.2.2.1) r_BasisThings fun x ok hp => p_BasisThings x.1 x.2.1 x.2.2.1 x.2.2.2.1 ok.1 ok.2.1 ok.2.2.1 ok.2.2.2.1
noncomputable def C_BasisMetrics : Contract := { args := [.agg .chg, .agg .met], res := [.bool], pre := fun _ => True, F := fun x => ((true : Bool), ()) }
def T_BasisMetrics (c : Chg) (m : Met) : Prop :=
  (True ∧
(True ∧
(True ∧
∀ z2 : Met,
(z2 = metM c m →
∀ z4 : Int,
(z4 = metE c m →
(True ∧
((true = true →
 ((((decide ((metM c m).AA = z2.AA)) && ((decide ((metM c m).BB = z2.BB)) && ((decide ((metM c m).CC = z2.CC)) && ((decide ((metM c m).BC = z2.BC)) && ((decide ((metM c m).AC = z2.AC)) && ((decide ((metM c m).AB = z2.AB)) && true)))))) = true →
  ((decide (metE c m = z4)), ()) = (true, ())) ∧
 (((decide ((metM c m).AA = z2.AA)) && ((decide ((metM c m).BB = z2.BB)) && ((decide ((metM c m).CC = z2.CC)) && ((decide ((metM c m).BC = z2.BC)) && ((decide ((metM c m).AC = z2.AC)) && ((decide ((metM c m).AB = z2.AB)) && true)))))) = false →
 (false, ()) = (true, ())))) ∧
(true = false →
(false, ()) = (true, ())))))))))
theorem r_BasisMetrics (x : HL C_BasisMetrics.args) : runs (env [(11, C_f7of), (13, C_awake7), (10, C_bMetric.hid), (12, C_f7DocMetric.hid)] []) 400 3 C_BasisMetrics x = T_BasisMetrics x.1 x.2.1 := by kernel_rfl
theorem p_BasisMetrics (c : Chg) (m : Met) (h0 : (Sh.agg .chg).okA c) (h1 : (Sh.agg .met).okA m) : T_BasisMetrics c m := by
  simp [T_BasisMetrics]
theorem s_BasisMetrics : Sound Try.prog 3 C_BasisMetrics :=
  sound_of_eq (env_ok (.cons s_f7of (.cons s_awake7 (.cons s_bMetric.hid (.cons s_f7DocMetric.hid (.nil)))))) (fun x => T_BasisMetrics x.1 x.2.1) r_BasisMetrics fun x ok hp => p_BasisMetrics x.1 x.2.1 ok.1 ok.2.1
end Go.Fx
