/-
  Contracts: right, Apply, fright, fForm, fPlace, fShift, opApply.
-/
import Derived.Test.YtolbgdfbdlddaaaK16
namespace Go.Fx
open Go Go.Proofs
set_option maxRecDepth 100000
set_option linter.unusedVariables false
set_option linter.unusedSimpArgs false
set_option linter.unusedSectionVars false
noncomputable def C_right : Contract := { args := [.agg .vec], res := [.bool], pre := fun _ => True, F := fun x => ((okC x.1 : Bool), ()) }
def T_right (v : V3) : Prop :=
  (((decide (v.x < (-2147483648))) = true →
 (false, ()) = (okC v, ())) ∧
((decide (v.x < (-2147483648))) = false →
(((decide (2147483648 < v.x)) = true →
 (false, ()) = (okC v, ())) ∧
((decide (2147483648 < v.x)) = false →
(((decide (v.y < (-2147483648))) = true →
 (false, ()) = (okC v, ())) ∧
((decide (v.y < (-2147483648))) = false →
(((decide (2147483648 < v.y)) = true →
 (false, ()) = (okC v, ())) ∧
((decide (2147483648 < v.y)) = false →
(((decide (v.z < (-2147483648))) = true →
 (false, ()) = (okC v, ())) ∧
((decide (v.z < (-2147483648))) = false →
(((decide (2147483648 < v.z)) = true →
 (false, ()) = (okC v, ())) ∧
((decide (2147483648 < v.z)) = false →
(true, ()) = (okC v, ())))))))))))))
theorem r_right (x : HL C_right.args) : runs (env0 [] [] []) 400 107 C_right x = T_right x.1 := by kernel_rfl
theorem p_right (v : V3) (h0 : (Sh.agg .vec).okA v) : T_right v := by
  simp only [T_right, decide_eq_true_eq, decide_eq_false_iff_not]
  repeat' (first | apply And.intro | intro _ | exact trivial)
  all_goals simp only [okC, inE, Prod.mk.injEq, and_true]
  all_goals first | (symm; simp only [Bool.and_eq_true, decide_eq_true_eq]; omega) | (symm; rw [Bool.eq_false_iff]; simp only [ne_eq, Bool.and_eq_true, decide_eq_true_eq]; omega)
theorem s_right : Sound Try.prog 107 C_right :=
  sound_of_eq (env0_ok (.nil)) (fun x => T_right x.1) r_right fun x ok hp => p_right x.1 ok.1
noncomputable def C_Apply : Contract := { args := [.agg .mat, .agg .vec], res := [.agg .vec, .int .i64], pre := fun _ => True, F := fun x => ((selV (err2 (errM x.1) (errV x.2.1)) (wV (appZ x.1 x.2.1)) : V3), (err2 (errM x.1) (errV x.2.1) : Int), ()) }
def T_Apply (m : M3) (v : V3) : Prop :=
  (True ∧
(((!(decide (errM m = 0))) = true →
 ((V3.mk 0 0 0), (4, ())) = (selV (err2 (errM m) (errV v)) (wV (appZ m v)), (err2 (errM m) (errV v), ()))) ∧
((!(decide (errM m = 0))) = false →
(True ∧
(((!okC v) = true →
 ((V3.mk 0 0 0), (4, ())) = (selV (err2 (errM m) (errV v)) (wV (appZ m v)), (err2 (errM m) (errV v), ()))) ∧
((!okC v) = false →
((V3.mk ((w64 (((w64 (((w64 (m.xx * v.x)) + (w64 (m.xy * v.y))))) + (w64 (m.xz * v.z)))))) ((w64 (((w64 (((w64 (m.yx * v.x)) + (w64 (m.yy * v.y))))) + (w64 (m.yz * v.z)))))) ((w64 (((w64 (((w64 (m.zx * v.x)) + (w64 (m.zy * v.y))))) + (w64 (m.zz * v.z))))))), (0, ())) = (selV (err2 (errM m) (errV v)) (wV (appZ m v)), (err2 (errM m) (errV v), ()))))))))
theorem r_Apply (x : HL C_Apply.args) : runs (env0 [(93, C_check), (107, C_right)] [] []) 400 75 C_Apply x = T_Apply x.1 x.2.1 := by kernel_rfl
theorem p_Apply (m : M3) (v : V3) (h0 : (Sh.agg .mat).okA m) (h1 : (Sh.agg .vec).okA v) : T_Apply m v := by
  rcases errM_cases m with hm | hm <;> cases hv : okC v <;> simp [T_Apply, errV, hm, hv, err2, selV, wV, appZ, w64_add_l, w64_add_r, w64_sub_l, w64_sub_r, w64_mul_l, w64_mul_r, w64_w64]
theorem s_Apply : Sound Try.prog 75 C_Apply :=
  sound_of_eq (env0_ok (.cons s_check (.cons s_right (.nil)))) (fun x => T_Apply x.1 x.2.1) r_Apply fun x ok hp => p_Apply x.1 x.2.1 ok.1 ok.2.1
noncomputable def C_fright : Contract := { args := [.int .i64], res := [.bool], pre := fun _ => True, F := fun x => ((rgtM x.1 : Bool), ()) }
def T_fright (m : Int) : Prop :=
  (((decide (m = 24)) = true →
 (true, ()) = (rgtM m, ())) ∧
((decide (m = 24)) = false →
(((decide (m = 48)) = true →
 (true, ()) = (rgtM m, ())) ∧
((decide (m = 48)) = false →
(((decide (m = 96)) = true →
 (true, ()) = (rgtM m, ())) ∧
((decide (m = 96)) = false →
((decide (m = 192)), ()) = (rgtM m, ())))))))
theorem r_fright (x : HL C_fright.args) : runs (env0 [] [] []) 400 106 C_fright x = T_fright x.1 := by kernel_rfl
theorem p_fright (m : Int) (h0 : (Sh.int .i64).okA m) : T_fright m := by
  by_cases h1 : m = 24 <;> by_cases h2 : m = 48 <;> by_cases h3 : m = 96 <;> by_cases h4 : m = 192 <;> simp [T_fright, rgtM, h1, h2, h3, h4]
theorem s_fright : Sound Try.prog 106 C_fright :=
  sound_of_eq (env0_ok (.nil)) (fun x => T_fright x.1) r_fright fun x ok hp => p_fright x.1 ok.1
noncomputable def C_fForm : Contract := { args := [.agg .pt], res := [.bool], pre := fun _ => True, F := fun x => ((frmP x.1 : Bool), ()) }
def T_fForm (p : Pt) : Prop :=
  (True ∧
(((!rgtM p.M) = true →
 (false, ()) = (frmP p, ())) ∧
((!rgtM p.M) = false →
(((decide (p.X.x < 0)) = true →
 (false, ()) = (frmP p, ())) ∧
((decide (p.X.x < 0)) = false →
(((decide (p.M ≤ p.X.x)) = true →
 (false, ()) = (frmP p, ())) ∧
((decide (p.M ≤ p.X.x)) = false →
(((decide (p.X.y < 0)) = true →
 (false, ()) = (frmP p, ())) ∧
((decide (p.X.y < 0)) = false →
(((decide (p.M ≤ p.X.y)) = true →
 (false, ()) = (frmP p, ())) ∧
((decide (p.M ≤ p.X.y)) = false →
(((decide (p.X.z < 0)) = true →
 (false, ()) = (frmP p, ())) ∧
((decide (p.X.z < 0)) = false →
(((decide (p.M ≤ p.X.z)) = true →
 (false, ()) = (frmP p, ())) ∧
((decide (p.M ≤ p.X.z)) = false →
(true, ()) = (frmP p, ()))))))))))))))))
theorem r_fForm (x : HL C_fForm.args) : runs (env0 [(106, C_fright)] [] []) 400 74 C_fForm x = T_fForm x.1 := by kernel_rfl
theorem p_fForm (p : Pt) (h0 : (Sh.agg .pt).okA p) : T_fForm p := by
  have key : ∀ b : Bool, (b = true ↔ frmP p = true) → (b, ()) = (frmP p, ()) := fun b h => by rw [Bool.eq_iff_iff.2 h]
  unfold T_fForm
  have hr := rgt_iff (m := p.M)
  simp only [decide_eq_true_eq, decide_eq_false_iff_not]
  repeat' (first | apply And.intro | intro _ | exact trivial)
  all_goals (refine key _ ?_; rw [frmP_iff, ← hr]; simp_all <;> omega)
theorem s_fForm : Sound Try.prog 74 C_fForm :=
  sound_of_eq (env0_ok (.cons s_fright (.nil))) (fun x => T_fForm x.1) r_fForm fun x ok hp => p_fForm x.1 ok.1
noncomputable def C_fPlace : Contract := { args := [.int .i64, .agg .vec], res := [.agg .pt, .int .i64], pre := fun _ => True, F := fun x => ((plaP x.1 x.2.1 : Pt), (plaE x.1 : Int), ()) }
def T_fPlace (m : Int) (v : V3) : Prop :=
  (True ∧
(((!rgtM m) = true →
 ((Pt.mk 0 (V3.mk 0 0 0)), (1, ())) = (plaP m v, (plaE m, ()))) ∧
((!rgtM m) = false →
((inM m ∧
 (inM m ∧
 (inM m ∧
 ((Pt.mk m ((V3.mk (emo v.x m) (emo v.y m) (emo v.z m)))), (0, ())) = (plaP m v, (plaE m, ()))))) ∧
((inM m ∧
 (inM m ∧
 (inM m ∧
 ((Pt.mk m ((V3.mk (emo v.x m) (emo v.y m) (emo v.z m)))), (0, ())) = (plaP m v, (plaE m, ()))))) ∧
(inM m ∧
(inM m ∧
(inM m ∧
((Pt.mk m ((V3.mk (emo v.x m) (emo v.y m) (emo v.z m)))), (0, ())) = (plaP m v, (plaE m, ()))))))))))
theorem r_fPlace (x : HL C_fPlace.args) : runs (env0 [(106, C_fright), (96, C_fmod)] [] []) 400 76 C_fPlace x = T_fPlace x.1 x.2.1 := by kernel_rfl
theorem p_fPlace (m : Int) (v : V3) (h0 : (Sh.int .i64).okA m) (h1 : (Sh.agg .vec).okA v) : T_fPlace m v := by
  cases h : rgtM m
  · simp [T_fPlace, h, plaP, plaE, zerP]
  · simp [T_fPlace, h, plaP, plaE, rgt_in h, modV, emo]
theorem s_fPlace : Sound Try.prog 76 C_fPlace :=
  sound_of_eq (env0_ok (.cons s_fright (.cons s_fmod (.nil)))) (fun x => T_fPlace x.1 x.2.1) r_fPlace fun x ok hp => p_fPlace x.1 x.2.1 ok.1 ok.2.1
noncomputable def C_fShift : Contract := { args := [.agg .pt, .agg .vec], res := [.agg .pt, .int .i64], pre := fun _ => True, F := fun x => ((shfP x.1 x.2.1 : Pt), (shfE x.1 : Int), ()) }
def T_fShift (p : Pt) (t : V3) : Prop :=
  (True ∧
(((!frmP p) = true →
 ((Pt.mk 0 (V3.mk 0 0 0)), (3, ())) = (shfP p t, (shfE p, ()))) ∧
((!frmP p) = false →
(((True ∧
  (((plaP p.M ((V3.mk ((w64 ((p.X.x + ((Int.tmod t.x 24) * (Int.tdiv p.M 24)))))) ((w64 ((p.X.y + ((Int.tmod t.y 24) * (Int.tdiv p.M 24)))))) ((w64 ((p.X.z + ((Int.tmod t.z 24) * (Int.tdiv p.M 24))))))))), (plaE p.M, ())) = (shfP p t, (shfE p, ())) ∧
  ((plaP p.M ((V3.mk ((w64 ((p.X.x + ((Int.tmod t.x 24) * (Int.tdiv p.M 24)))))) ((w64 ((p.X.y + ((Int.tmod t.y 24) * (Int.tdiv p.M 24)))))) ((w64 ((p.X.z + ((Int.tmod t.z 24) * (Int.tdiv p.M 24))))))))), (plaE p.M, ())) = (shfP p t, (shfE p, ())))) ∧
 ((True ∧
  (((plaP p.M ((V3.mk ((w64 ((p.X.x + ((Int.tmod t.x 24) * (Int.tdiv p.M 24)))))) ((w64 ((p.X.y + ((Int.tmod t.y 24) * (Int.tdiv p.M 24)))))) ((w64 ((p.X.z + ((Int.tmod t.z 24) * (Int.tdiv p.M 24))))))))), (plaE p.M, ())) = (shfP p t, (shfE p, ())) ∧
  ((plaP p.M ((V3.mk ((w64 ((p.X.x + ((Int.tmod t.x 24) * (Int.tdiv p.M 24)))))) ((w64 ((p.X.y + ((Int.tmod t.y 24) * (Int.tdiv p.M 24)))))) ((w64 ((p.X.z + ((Int.tmod t.z 24) * (Int.tdiv p.M 24))))))))), (plaE p.M, ())) = (shfP p t, (shfE p, ())))) ∧
 (True ∧
 (((plaP p.M ((V3.mk ((w64 ((p.X.x + ((Int.tmod t.x 24) * (Int.tdiv p.M 24)))))) ((w64 ((p.X.y + ((Int.tmod t.y 24) * (Int.tdiv p.M 24)))))) ((w64 ((p.X.z + ((Int.tmod t.z 24) * (Int.tdiv p.M 24))))))))), (plaE p.M, ())) = (shfP p t, (shfE p, ())) ∧
 ((plaP p.M ((V3.mk ((w64 ((p.X.x + ((Int.tmod t.x 24) * (Int.tdiv p.M 24)))))) ((w64 ((p.X.y + ((Int.tmod t.y 24) * (Int.tdiv p.M 24)))))) ((w64 ((p.X.z + ((Int.tmod t.z 24) * (Int.tdiv p.M 24))))))))), (plaE p.M, ())) = (shfP p t, (shfE p, ())))))) ∧
(((True ∧
  (((plaP p.M ((V3.mk ((w64 ((p.X.x + ((Int.tmod t.x 24) * (Int.tdiv p.M 24)))))) ((w64 ((p.X.y + ((Int.tmod t.y 24) * (Int.tdiv p.M 24)))))) ((w64 ((p.X.z + ((Int.tmod t.z 24) * (Int.tdiv p.M 24))))))))), (plaE p.M, ())) = (shfP p t, (shfE p, ())) ∧
  ((plaP p.M ((V3.mk ((w64 ((p.X.x + ((Int.tmod t.x 24) * (Int.tdiv p.M 24)))))) ((w64 ((p.X.y + ((Int.tmod t.y 24) * (Int.tdiv p.M 24)))))) ((w64 ((p.X.z + ((Int.tmod t.z 24) * (Int.tdiv p.M 24))))))))), (plaE p.M, ())) = (shfP p t, (shfE p, ())))) ∧
 (True ∧
 (((plaP p.M ((V3.mk ((w64 ((p.X.x + ((Int.tmod t.x 24) * (Int.tdiv p.M 24)))))) ((w64 ((p.X.y + ((Int.tmod t.y 24) * (Int.tdiv p.M 24)))))) ((w64 ((p.X.z + ((Int.tmod t.z 24) * (Int.tdiv p.M 24))))))))), (plaE p.M, ())) = (shfP p t, (shfE p, ())) ∧
 ((plaP p.M ((V3.mk ((w64 ((p.X.x + ((Int.tmod t.x 24) * (Int.tdiv p.M 24)))))) ((w64 ((p.X.y + ((Int.tmod t.y 24) * (Int.tdiv p.M 24)))))) ((w64 ((p.X.z + ((Int.tmod t.z 24) * (Int.tdiv p.M 24))))))))), (plaE p.M, ())) = (shfP p t, (shfE p, ()))))) ∧
(True ∧
(((plaP p.M ((V3.mk ((w64 ((p.X.x + ((Int.tmod t.x 24) * (Int.tdiv p.M 24)))))) ((w64 ((p.X.y + ((Int.tmod t.y 24) * (Int.tdiv p.M 24)))))) ((w64 ((p.X.z + ((Int.tmod t.z 24) * (Int.tdiv p.M 24))))))))), (plaE p.M, ())) = (shfP p t, (shfE p, ())) ∧
((plaP p.M ((V3.mk ((w64 ((p.X.x + ((Int.tmod t.x 24) * (Int.tdiv p.M 24)))))) ((w64 ((p.X.y + ((Int.tmod t.y 24) * (Int.tdiv p.M 24)))))) ((w64 ((p.X.z + ((Int.tmod t.z 24) * (Int.tdiv p.M 24))))))))), (plaE p.M, ())) = (shfP p t, (shfE p, ())))))))))
theorem r_fShift (x : HL C_fShift.args) : runs (env0 [(74, C_fForm), (76, C_fPlace)] [] []) 400 77 C_fShift x = T_fShift x.1 x.2.1 := by kernel_rfl
theorem p_fShift (p : Pt) (t : V3) (h0 : (Sh.agg .pt).okA p) (h1 : (Sh.agg .vec).okA t) : T_fShift p t := by
  cases h : frmP p
  · simp [T_fShift, h, shfP, shfE, zerP]
  · obtain ⟨e1, e2⟩ := shf_ok h t
    simp [T_fShift, h, shfP, shfE, e1, e2]
theorem s_fShift : Sound Try.prog 77 C_fShift :=
  sound_of_eq (env0_ok (.cons s_fForm (.cons s_fPlace (.nil)))) (fun x => T_fShift x.1 x.2.1) r_fShift fun x ok hp => p_fShift x.1 x.2.1 ok.1 ok.2.1
noncomputable def C_opApply : Contract := { args := [.agg .op, .agg .pt], res := [.agg .pt, .int .i64], pre := fun _ => True, F := fun x => ((appP x.1 x.2.1 : Pt), (appE x.1 x.2.1 : Int), ()) }
def T_opApply (o : Op3) (p : Pt) : Prop :=
  (True ∧
(True ∧
(((!frmP p) = true →
 ((Pt.mk 0 (V3.mk 0 0 0)), (3, ())) = (appP o p, (appE o p, ()))) ∧
((!frmP p) = false →
(((!(decide (errL [o] = 0))) = true →
 ((Pt.mk 0 (V3.mk 0 0 0)), (errL [o], ())) = (appP o p, (appE o p, ()))) ∧
((!(decide (errL [o] = 0))) = false →
(True ∧
∀ z4 : V3,
(z4 = selV (err2 (errM o.R) (errV p.X)) (wV (appZ o.R p.X)) →
∀ z6 : Int,
(z6 = err2 (errM o.R) (errV p.X) →
(True ∧
∀ z8 : Pt,
(z8 = plaP p.M z4 →
∀ z10 : Int,
(z10 = plaE p.M →
(True ∧
∀ z12 : Pt,
(z12 = shfP z8 o.T →
∀ z14 : Int,
(z14 = shfE z8 →
(z12, (z14, ())) = (appP o p, (appE o p, ())))))))))))))))))
theorem r_opApply (x : HL C_opApply.args) : runs (env0 [(59, C_opcheck), (74, C_fForm), (75, C_Apply.hid), (76, C_fPlace.hid), (77, C_fShift.hid)] [] []) 400 36 C_opApply x = T_opApply x.1 x.2.1 := by kernel_rfl
theorem p_opApply (o : Op3) (p : Pt) (h0 : (Sh.agg .op).okA o) (h1 : (Sh.agg .pt).okA p) : T_opApply o p := by
  have e1 := errL_one o
  cases hp : frmP p
  · simp [T_opApply, hp, appP, appE, zerP]
  · by_cases he : errO o = 0
    · have hF := errO_ok.1 he
      have hr := frmP_rgt hp
      have hm : errM o.R = 0 := errM_B (by decide) hF.B
      obtain ⟨q0, q1, q2, q3⟩ := frmP_iff.1 hp
      have hc : errV p.X = 0 := by
        unfold errV
        rw [if_pos]
        simp only [okC, inE, Bool.and_eq_true, decide_eq_true_eq]
        omega
      have hB : BndV 192 p.X := ⟨⟨by omega, by omega⟩, ⟨by omega, by omega⟩, ⟨by omega, by omega⟩⟩
      have hw : wV (appZ o.R p.X) = appZ o.R p.X := wV_id (by decide) (appB hF.B hB)
      have hE : appE o p = 0 := by unfold appE; rw [if_pos hp, he]
      have hP : appP o p = appX o p := by unfold appP; rw [if_pos hE]
      have pl : plaP p.M (appZ o.R p.X) = Pt.mk p.M (modV p.M (appZ o.R p.X)) := by unfold plaP; rw [if_pos hr]
      have sf : frmP (Pt.mk p.M (modV p.M (appZ o.R p.X))) = true := frmP_mod hr _
      have se : shfE (Pt.mk p.M (modV p.M (appZ o.R p.X))) = 0 := by unfold shfE; rw [if_pos sf]
      have sp : shfP (Pt.mk p.M (modV p.M (appZ o.R p.X))) o.T = appX o p := by
        unfold shfP; rw [if_pos sf]
        show Pt.mk p.M _ = Pt.mk p.M _
        congr 1
        show eqV p.M (addV (modV p.M (appZ o.R p.X)) (scaV (p.M / 24) o.T)) (addV (appZ o.R p.X) (scaV (p.M / 24) o.T))
        exact eqV_add (eqV_mod _ _) (eqV.refl _ _)
      simp [T_opApply, hp, e1, he, hE, hP, hm, hc, hw, selV, err2, pl, se, sp]
    · have hE : appE o p = errO o := by unfold appE; rw [if_pos hp]
      simp [T_opApply, hp, e1, he, hE, appP, zerP]
theorem s_opApply : Sound Try.prog 36 C_opApply :=
  sound_of_eq (env0_ok (.cons s_opcheck (.cons s_fForm (.cons s_Apply.hid (.cons s_fPlace.hid (.cons s_fShift.hid (.nil))))))) (fun x => T_opApply x.1 x.2.1) r_opApply fun x ok hp => p_opApply x.1 x.2.1 ok.1 ok.2.1
end Go.Fx
