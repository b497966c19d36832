/-
  Contracts: bproduct, bmoved, bBack, bPoint, btold, bIndex, bwithin, bMetric.
-/
import Derived.Test.YtkchandelfmoaaaGreatK5
namespace Go.Fx
open Go Go.Proofs
set_option maxRecDepth 100000
set_option linter.unusedVariables false
set_option linter.unusedSimpArgs false
set_option linter.unusedSectionVars false
noncomputable def C_bproduct : Contract := { args := [.agg .mat, .agg .mat], res := [.agg .mat], pre := fun _ => True, F := fun x => ((wM (mulZ x.1 x.2.1) : M3), ()) }
def T_bproduct (a : M3) (b : M3) : Prop :=
  ((M3.mk ((w64 (((w64 (((0 + (w64 (a.xx * b.xx))) + (w64 (a.xy * b.yx))))) + (w64 (a.xz * b.zx)))))) ((w64 (((w64 (((0 + (w64 (a.xx * b.xy))) + (w64 (a.xy * b.yy))))) + (w64 (a.xz * b.zy)))))) ((w64 (((w64 (((0 + (w64 (a.xx * b.xz))) + (w64 (a.xy * b.yz))))) + (w64 (a.xz * b.zz)))))) ((w64 (((w64 (((0 + (w64 (a.yx * b.xx))) + (w64 (a.yy * b.yx))))) + (w64 (a.yz * b.zx)))))) ((w64 (((w64 (((0 + (w64 (a.yx * b.xy))) + (w64 (a.yy * b.yy))))) + (w64 (a.yz * b.zy)))))) ((w64 (((w64 (((0 + (w64 (a.yx * b.xz))) + (w64 (a.yy * b.yz))))) + (w64 (a.yz * b.zz)))))) ((w64 (((w64 (((0 + (w64 (a.zx * b.xx))) + (w64 (a.zy * b.yx))))) + (w64 (a.zz * b.zx)))))) ((w64 (((w64 (((0 + (w64 (a.zx * b.xy))) + (w64 (a.zy * b.yy))))) + (w64 (a.zz * b.zy)))))) ((w64 (((w64 (((0 + (w64 (a.zx * b.xz))) + (w64 (a.zy * b.yz))))) + (w64 (a.zz * b.zz))))))), ()) = (wM (mulZ a b), ())
theorem r_bproduct (x : HL C_bproduct.args) : runs (env0 [] [] []) 400 37 C_bproduct x = T_bproduct x.1 x.2.1 := by kernel_rfl
theorem p_bproduct (a : M3) (b : M3) (h0 : (Sh.agg .mat).okA a) (h1 : (Sh.agg .mat).okA b) : T_bproduct a b := by
  simp only [T_bproduct, wM, mulZ, Int.zero_add, and_self, w64_add_l, w64_add_r, w64_sub_l, w64_sub_r, w64_mul_l, w64_mul_r, w64_w64]
theorem s_bproduct : Sound Tryz.prog 37 C_bproduct :=
  sound_of_eq (env0_ok (.nil)) (fun x => T_bproduct x.1 x.2.1) r_bproduct fun x ok hp => p_bproduct x.1 x.2.1 ok.1 ok.2.1
noncomputable def C_bmoved : Contract := { args := [.agg .mat, .agg .vec], res := [.agg .vec], pre := fun _ => True, F := fun x => ((shiT x.1 x.2.1 : V3), ()) }
def T_bmoved (m : M3) (v : V3) : Prop :=
  (True ∧
(addT ((V3.mk ((((0 + ((Int.tmod m.xx 24) * (Int.tmod v.x 24))) + ((Int.tmod m.xy 24) * (Int.tmod v.y 24))) + ((Int.tmod m.xz 24) * (Int.tmod v.z 24)))) ((((0 + ((Int.tmod m.yx 24) * (Int.tmod v.x 24))) + ((Int.tmod m.yy 24) * (Int.tmod v.y 24))) + ((Int.tmod m.yz 24) * (Int.tmod v.z 24)))) ((((0 + ((Int.tmod m.zx 24) * (Int.tmod v.x 24))) + ((Int.tmod m.zy 24) * (Int.tmod v.y 24))) + ((Int.tmod m.zz 24) * (Int.tmod v.z 24)))))) (V3.mk 0 0 0), ()) = (shiT m v, ()))
theorem r_bmoved (x : HL C_bmoved.args) : runs (env0 [(45, C_fAdd)] [] []) 400 35 C_bmoved x = T_bmoved x.1 x.2.1 := by kernel_rfl
theorem p_bmoved (m : M3) (v : V3) (h0 : (Sh.agg .mat).okA m) (h1 : (Sh.agg .vec).okA v) : T_bmoved m v := by
  refine ⟨trivial, ?_⟩
  simp only [addT, addV, modV, shiT, appZ, mov1]
theorem s_bmoved : Sound Tryz.prog 35 C_bmoved :=
  sound_of_eq (env0_ok (.cons s_fAdd (.nil))) (fun x => T_bmoved x.1 x.2.1) r_bmoved fun x ok hp => p_bmoved x.1 x.2.1 ok.1 ok.2.1
noncomputable def C_bBack : Contract := { args := [.agg .chg], res := [.agg .chg, .int .i64], pre := fun _ => True, F := fun x => ((selC (bakE x.1) (bakC x.1) : Chg), (bakE x.1 : Int), ()) }
def T_bBack (c : Chg) : Prop :=
  (True ∧
∀ z1 : M3,
(z1 = selM (uniE c.P) (wM (scaZ (detZ c.P) (adjZ c.P))) →
∀ z3 : Int,
(z3 = uniE c.P →
(True ∧
(((decide (z3 = 0)) = true →
 (((!(decide (errM z1 = 0))) = true →
  ((Chg.mk (M3.mk 0 0 0 0 0 0 0 0 0) (V3.mk 0 0 0)), (errM z1, ())) = (selC (bakE c) (bakC c), (bakE c, ()))) ∧
 ((!(decide (errM z1 = 0))) = false →
 (True ∧
 (True ∧
 ((Chg.mk z1 (negT (shiT z1 c.O))), (0, ())) = (selC (bakE c) (bakC c), (bakE c, ()))))))) ∧
((decide (z3 = 0)) = false →
(((!(decide (errM z1 = 0))) = true →
 (((decide (errM z1 < z3)) = true →
  (((!(decide (errM z1 = 0))) = true →
   ((Chg.mk (M3.mk 0 0 0 0 0 0 0 0 0) (V3.mk 0 0 0)), (errM z1, ())) = (selC (bakE c) (bakC c), (bakE c, ()))) ∧
  ((!(decide (errM z1 = 0))) = false →
  (True ∧
  (True ∧
  ((Chg.mk z1 (negT (shiT z1 c.O))), (0, ())) = (selC (bakE c) (bakC c), (bakE c, ()))))))) ∧
 ((decide (errM z1 < z3)) = false →
 (((!(decide (z3 = 0))) = true →
  ((Chg.mk (M3.mk 0 0 0 0 0 0 0 0 0) (V3.mk 0 0 0)), (z3, ())) = (selC (bakE c) (bakC c), (bakE c, ()))) ∧
 ((!(decide (z3 = 0))) = false →
 (True ∧
 (True ∧
 ((Chg.mk z1 (negT (shiT z1 c.O))), (0, ())) = (selC (bakE c) (bakC c), (bakE c, ()))))))))) ∧
((!(decide (errM z1 = 0))) = false →
(((!(decide (z3 = 0))) = true →
 ((Chg.mk (M3.mk 0 0 0 0 0 0 0 0 0) (V3.mk 0 0 0)), (z3, ())) = (selC (bakE c) (bakC c), (bakE c, ()))) ∧
((!(decide (z3 = 0))) = false →
(True ∧
(True ∧
((Chg.mk z1 (negT (shiT z1 c.O))), (0, ())) = (selC (bakE c) (bakC c), (bakE c, ()))))))))))))))
theorem r_bBack (x : HL C_bBack.args) : runs (env0 [(40, C_Inverse.hid), (21, C_check), (35, C_bmoved.hid), (34, C_fNeg.hid)] [] []) 400 13 C_bBack x = T_bBack x.1 := by kernel_rfl
theorem p_bBack (c : Chg) (h0 : (Sh.agg .chg).okA c) : T_bBack c := by
  have e0 : errM (M3.mk 0 0 0 0 0 0 0 0 0) = 0 := by decide
  rcases uniE_034 c.P with h1 | h1 | h1 <;> by_cases h3 : errM (invW c.P) = 0 <;> simp only [invW] at h3 <;> simp [T_bBack, h1, h3, e0, bakE, bakC, selC, zerC, selM, invW]
theorem s_bBack : Sound Tryz.prog 13 C_bBack :=
  sound_of_eq (env0_ok (.cons s_Inverse.hid (.cons s_check (.cons s_bmoved.hid (.cons s_fNeg.hid (.nil)))))) (fun x => T_bBack x.1) r_bBack fun x ok hp => p_bBack x.1 ok.1
noncomputable def C_bPoint : Contract := { args := [.agg .chg, .agg .pt], res := [.agg .pt, .int .i64], pre := fun _ => True, F := fun x => ((pntP x.1 x.2.1 : Pt), (pntE x.1 x.2.1 : Int), ()) }
def T_bPoint (c : Chg) (p : Pt) : Prop :=
  (True ∧
∀ z2 : M3,
(z2 = selM (uniE c.P) (wM (scaZ (detZ c.P) (adjZ c.P))) →
∀ z4 : Int,
(z4 = uniE c.P →
(True ∧
∀ z6 : Bool,
(z6 = frmP p →
(((!z6) = true →
 ((Pt.mk 0 (V3.mk 0 0 0)), (3, ())) = (pntP c p, (pntE c p, ()))) ∧
((!z6) = false →
(((!(decide (z4 = 0))) = true →
 ((Pt.mk 0 (V3.mk 0 0 0)), (z4, ())) = (pntP c p, (pntE c p, ()))) ∧
((!(decide (z4 = 0))) = false →
(True ∧
∀ z10 : V3,
(z10 = selV (err2 (errM c.P) (errV p.X)) (wV (appZ c.P p.X)) →
∀ z12 : Int,
(z12 = err2 (errM c.P) (errV p.X) →
(True ∧
∀ z14 : Pt,
(z14 = plaP p.M z10 →
∀ z16 : Int,
(z16 = plaE p.M →
(True ∧
∀ z18 : Pt,
(z18 = shfP z14 c.O →
∀ z20 : Int,
(z20 = shfE z14 →
(z18, (z20, ())) = (pntP c p, (pntE c p, ()))))))))))))))))))))
theorem r_bPoint (x : HL C_bPoint.args) : runs (env0 [(40, C_Inverse.hid), (30, C_fForm.hid), (31, C_Apply.hid), (32, C_fPlace.hid), (33, C_fShift.hid)] [] []) 400 12 C_bPoint x = T_bPoint x.1 x.2.1 := by kernel_rfl
theorem p_bPoint (c : Chg) (p : Pt) (h0 : (Sh.agg .chg).okA c) (h1 : (Sh.agg .pt).okA p) : T_bPoint c p := by
  cases hf : frmP p
  · simp [T_bPoint, hf, pntP, pntE, zerP]
  · by_cases hu : uniE c.P = 0
    · obtain ⟨e1, e2, e3, e4⟩ := pnt_ok hu hf
      simp [T_bPoint, hf, hu, e1, e2, e3, e4, pntP, pntE, selV]
    · simp [T_bPoint, hf, hu, pntP, pntE, zerP]
theorem s_bPoint : Sound Tryz.prog 12 C_bPoint :=
  sound_of_eq (env0_ok (.cons s_Inverse.hid (.cons s_fForm.hid (.cons s_Apply.hid (.cons s_fPlace.hid (.cons s_fShift.hid (.nil))))))) (fun x => T_bPoint x.1 x.2.1) r_bPoint fun x ok hp => p_bPoint x.1 x.2.1 ok.1 ok.2.1
noncomputable def C_btold : Contract := { args := [.agg .chg, .agg .mat, .agg .op], res := [.agg .op], pre := fun _ => True, F := fun x => ((tolW x.1 x.2.1 x.2.2.1 : Op3), ()) }
def T_btold (c : Chg) (q : M3) (o : Op3) : Prop :=
  (True ∧
(True ∧
(True ∧
(True ∧
(True ∧
(True ∧
((Op3.mk (wM (mulZ (wM (mulZ c.P o.R)) q)) (addT (addT (shiT c.P o.T) c.O) (negT (shiT (wM (mulZ (wM (mulZ c.P o.R)) q)) c.O)))), ()) = (tolW c q o, ())))))))
theorem r_btold (x : HL C_btold.args) : runs (env0 [(37, C_bproduct.hid), (35, C_bmoved.hid), (45, C_fAdd.hid), (46, C_fSub.hid)] [] []) 400 20 C_btold x = T_btold x.1 x.2.1 x.2.2.1 := by kernel_rfl
theorem p_btold (c : Chg) (q : M3) (o : Op3) (h0 : (Sh.agg .chg).okA c) (h1 : (Sh.agg .mat).okA q) (h2 : (Sh.agg .op).okA o) : T_btold c q o := by
  exact ⟨trivial, trivial, trivial, trivial, trivial, trivial, rfl⟩
theorem s_btold : Sound Tryz.prog 20 C_btold :=
  sound_of_eq (env0_ok (.cons s_bproduct.hid (.cons s_bmoved.hid (.cons s_fAdd.hid (.cons s_fSub.hid (.nil)))))) (fun x => T_btold x.1 x.2.1 x.2.2.1) r_btold fun x ok hp => p_btold x.1 x.2.1 x.2.2.1 ok.1 ok.2.1 ok.2.2.1
noncomputable def C_bIndex : Contract := { args := [.agg .chg, .agg .vec], res := [.agg .vec, .int .i64], pre := fun _ => True, F := fun x => ((idxV x.1 x.2.1 : V3), (idxE x.1 x.2.1 : Int), ()) }
def T_bIndex (c : Chg) (h : V3) : Prop :=
  (((decide (h.x < (-512))) = true →
 ((V3.mk 0 0 0), (1, ())) = (idxV c h, (idxE c h, ()))) ∧
((decide (h.x < (-512))) = false →
(((decide (512 < h.x)) = true →
 ((V3.mk 0 0 0), (1, ())) = (idxV c h, (idxE c h, ()))) ∧
((decide (512 < h.x)) = false →
(((decide (h.y < (-512))) = true →
 ((V3.mk 0 0 0), (1, ())) = (idxV c h, (idxE c h, ()))) ∧
((decide (h.y < (-512))) = false →
(((decide (512 < h.y)) = true →
 ((V3.mk 0 0 0), (1, ())) = (idxV c h, (idxE c h, ()))) ∧
((decide (512 < h.y)) = false →
(((decide (h.z < (-512))) = true →
 ((V3.mk 0 0 0), (1, ())) = (idxV c h, (idxE c h, ()))) ∧
((decide (h.z < (-512))) = false →
(((decide (512 < h.z)) = true →
 ((V3.mk 0 0 0), (1, ())) = (idxV c h, (idxE c h, ()))) ∧
((decide (512 < h.z)) = false →
(True ∧
∀ z8 : M3,
(z8 = selM (uniE c.P) (wM (scaZ (detZ c.P) (adjZ c.P))) →
∀ z10 : Int,
(z10 = uniE c.P →
(((!(decide (z10 = 0))) = true →
 ((V3.mk 0 0 0), (z10, ())) = (idxV c h, (idxE c h, ()))) ∧
((!(decide (z10 = 0))) = false →
((V3.mk ((w64 (((w64 (((0 + (w64 (h.x * z8.xx))) + (w64 (h.y * z8.yx))))) + (w64 (h.z * z8.zx)))))) ((w64 (((w64 (((0 + (w64 (h.x * z8.xy))) + (w64 (h.y * z8.yy))))) + (w64 (h.z * z8.zy)))))) ((w64 (((w64 (((0 + (w64 (h.x * z8.xz))) + (w64 (h.y * z8.yz))))) + (w64 (h.z * z8.zz))))))), (0, ())) = (idxV c h, (idxE c h, ())))))))))))))))))))
theorem r_bIndex (x : HL C_bIndex.args) : runs (env0 [(40, C_Inverse.hid)] [] []) 400 14 C_bIndex x = T_bIndex x.1 x.2.1 := by kernel_rfl
theorem p_bIndex (c : Chg) (h : V3) (h0 : (Sh.agg .chg).okA c) (h1 : (Sh.agg .vec).okA h) : T_bIndex c h := by
  unfold T_bIndex
  by_cases hh : okH h = true
  · have hk := hh
    simp only [okH, inE, Bool.and_eq_true, decide_eq_true_eq] at hk
    have e1 : ¬ h.x < -512 := by omega
    have e2 : ¬ 512 < h.x := by omega
    have e3 : ¬ h.y < -512 := by omega
    have e4 : ¬ 512 < h.y := by omega
    have e5 : ¬ h.z < -512 := by omega
    have e6 : ¬ 512 < h.z := by omega
    by_cases hu : uniE c.P = 0
    · simp [e1, e2, e3, e4, e5, e6, hu, hh, idxE, idxV, selM, invW, wV, appZ, traZ, w64_add_l, w64_add_r, w64_sub_l, w64_sub_r, w64_mul_l, w64_mul_r, w64_w64, Int.mul_comm]
    · simp [e1, e2, e3, e4, e5, e6, hu, hh, idxE, idxV]
  · have hx : (V3.mk 0 0 0, ((1 : Int), ())) = (idxV c h, (idxE c h, ())) := by simp [idxE, idxV, hh]
    have hk : ¬ (((-512 ≤ h.x ∧ h.x ≤ 512) ∧ (-512 ≤ h.y ∧ h.y ≤ 512)) ∧ (-512 ≤ h.z ∧ h.z ≤ 512)) := fun h' => hh (by simp only [okH, inE, Bool.and_eq_true, decide_eq_true_eq]; exact h')
    simp only [← hx, decide_eq_true_eq, decide_eq_false_iff_not, implies_true, true_and]
    intros; omega
theorem s_bIndex : Sound Tryz.prog 14 C_bIndex :=
  sound_of_eq (env0_ok (.cons s_Inverse.hid (.nil))) (fun x => T_bIndex x.1 x.2.1) r_bIndex fun x ok hp => p_bIndex x.1 x.2.1 ok.1 ok.2.1
noncomputable def C_bwithin : Contract := { args := [.agg .met], res := [.bool], pre := fun _ => True, F := fun x => ((metB x.1 : Bool), ()) }
def T_bwithin (m : Met) : Prop :=
  (((decide (m.AA < 1)) = true →
 (false, ()) = (metB m, ())) ∧
((decide (m.AA < 1)) = false →
(((decide (100000 < m.AA)) = true →
 (false, ()) = (metB m, ())) ∧
((decide (100000 < m.AA)) = false →
(((decide (m.BB < 1)) = true →
 (false, ()) = (metB m, ())) ∧
((decide (m.BB < 1)) = false →
(((decide (100000 < m.BB)) = true →
 (false, ()) = (metB m, ())) ∧
((decide (100000 < m.BB)) = false →
(((decide (m.CC < 1)) = true →
 (false, ()) = (metB m, ())) ∧
((decide (m.CC < 1)) = false →
(((decide (100000 < m.CC)) = true →
 (false, ()) = (metB m, ())) ∧
((decide (100000 < m.CC)) = false →
(((decide (m.BC < (-100000))) = true →
 (false, ()) = (metB m, ())) ∧
((decide (m.BC < (-100000))) = false →
(((decide (100000 < m.BC)) = true →
 (false, ()) = (metB m, ())) ∧
((decide (100000 < m.BC)) = false →
(((decide (m.AC < (-100000))) = true →
 (false, ()) = (metB m, ())) ∧
((decide (m.AC < (-100000))) = false →
(((decide (100000 < m.AC)) = true →
 (false, ()) = (metB m, ())) ∧
((decide (100000 < m.AC)) = false →
(((decide (m.AB < (-100000))) = true →
 (false, ()) = (metB m, ())) ∧
((decide (m.AB < (-100000))) = false →
(((decide (100000 < m.AB)) = true →
 (false, ()) = (metB m, ())) ∧
((decide (100000 < m.AB)) = false →
(true, ()) = (metB m, ())))))))))))))))))))))))))
theorem r_bwithin (x : HL C_bwithin.args) : runs (env0 [] [] []) 400 36 C_bwithin x = T_bwithin x.1 := by kernel_rfl
theorem p_bwithin (m : Met) (h0 : (Sh.agg .met).okA m) : T_bwithin m := by
  simp only [T_bwithin, decide_eq_true_eq, decide_eq_false_iff_not]
  repeat' (first | apply And.intro | intro _ | exact trivial)
  all_goals simp only [metB, inE, Prod.mk.injEq, and_true]
  all_goals first | (symm; simp only [Bool.and_eq_true, decide_eq_true_eq]; omega) | (symm; rw [Bool.eq_false_iff]; simp only [ne_eq, Bool.and_eq_true, decide_eq_true_eq]; omega)
theorem s_bwithin : Sound Tryz.prog 36 C_bwithin :=
  sound_of_eq (env0_ok (.nil)) (fun x => T_bwithin x.1) r_bwithin fun x ok hp => p_bwithin x.1 ok.1
noncomputable def C_bMetric : Contract := { args := [.agg .chg, .agg .met], res := [.agg .met, .int .i64], pre := fun _ => True, F := fun x => ((metM x.1 x.2.1 : Met), (metE x.1 x.2.1 : Int), ()) }
def T_bMetric (c : Chg) (m : Met) : Prop :=
  (True ∧
∀ z2 : Bool,
(z2 = metB m →
(((!z2) = true →
 ((Met.mk 0 0 0 0 0 0), (1, ())) = (metM c m, (metE c m, ()))) ∧
((!z2) = false →
(True ∧
∀ z5 : M3,
(z5 = selM (uniE c.P) (wM (scaZ (detZ c.P) (adjZ c.P))) →
∀ z7 : Int,
(z7 = uniE c.P →
(((!(decide (z7 = 0))) = true →
 ((Met.mk 0 0 0 0 0 0), (z7, ())) = (metM c m, (metE c m, ()))) ∧
((!(decide (z7 = 0))) = false →
(True ∧
(True ∧
((Met.mk ((wM (mulZ (wM (mulZ (M3.mk z5.xx z5.yx z5.zx z5.xy z5.yy z5.zy z5.xz z5.yz z5.zz) (M3.mk m.AA m.AB m.AC m.AB m.BB m.BC m.AC m.BC m.CC))) z5)).xx) ((wM (mulZ (wM (mulZ (M3.mk z5.xx z5.yx z5.zx z5.xy z5.yy z5.zy z5.xz z5.yz z5.zz) (M3.mk m.AA m.AB m.AC m.AB m.BB m.BC m.AC m.BC m.CC))) z5)).yy) ((wM (mulZ (wM (mulZ (M3.mk z5.xx z5.yx z5.zx z5.xy z5.yy z5.zy z5.xz z5.yz z5.zz) (M3.mk m.AA m.AB m.AC m.AB m.BB m.BC m.AC m.BC m.CC))) z5)).zz) ((wM (mulZ (wM (mulZ (M3.mk z5.xx z5.yx z5.zx z5.xy z5.yy z5.zy z5.xz z5.yz z5.zz) (M3.mk m.AA m.AB m.AC m.AB m.BB m.BC m.AC m.BC m.CC))) z5)).yz) ((wM (mulZ (wM (mulZ (M3.mk z5.xx z5.yx z5.zx z5.xy z5.yy z5.zy z5.xz z5.yz z5.zz) (M3.mk m.AA m.AB m.AC m.AB m.BB m.BC m.AC m.BC m.CC))) z5)).xz) ((wM (mulZ (wM (mulZ (M3.mk z5.xx z5.yx z5.zx z5.xy z5.yy z5.zy z5.xz z5.yz z5.zz) (M3.mk m.AA m.AB m.AC m.AB m.BB m.BC m.AC m.BC m.CC))) z5)).xy)), (0, ())) = (metM c m, (metE c m, ())))))))))))))
theorem r_bMetric (x : HL C_bMetric.args) : runs (env0 [(36, C_bwithin.hid), (40, C_Inverse.hid), (37, C_bproduct.hid)] [] []) 400 15 C_bMetric x = T_bMetric x.1 x.2.1 := by kernel_rfl
theorem p_bMetric (c : Chg) (m : Met) (h0 : (Sh.agg .chg).okA c) (h1 : (Sh.agg .met).okA m) : T_bMetric c m := by
  have key : ∀ q : M3, metO (wM (mulZ (wM (mulZ (traZ q) (gramZ m))) q)) = turM m q := fun q => by rw [mul_wl]; rfl
  simp only [metO, traZ, gramZ] at key
  cases h1 : metB m <;> by_cases h2 : uniE c.P = 0 <;> simp [T_bMetric, h1, h2, metE, metM, selM, invW, key]
theorem s_bMetric : Sound Tryz.prog 15 C_bMetric :=
  sound_of_eq (env0_ok (.cons s_bwithin.hid (.cons s_Inverse.hid (.cons s_bproduct.hid (.nil))))) (fun x => T_bMetric x.1 x.2.1) r_bMetric fun x ok hp => p_bMetric x.1 x.2.1 ok.1 ok.2.1
end Go.Fx
