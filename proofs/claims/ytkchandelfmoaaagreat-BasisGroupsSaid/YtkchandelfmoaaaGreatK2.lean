/-
  Contracts: Det, unit, Inverse, opmod, fmod, fAdd, fNeg, fSub, fright, fForm, fPlace, fShift, cmpInt.
-/
import Derived.Test.YtkchandelfmoaaaGreatK1
namespace Go.Fx
open Go Go.Proofs
set_option maxRecDepth 100000
set_option linter.unusedVariables false
set_option linter.unusedSimpArgs false
set_option linter.unusedSectionVars false
noncomputable def C_Det : Contract := { args := [.agg .mat], res := [.int .i64, .int .i64], pre := fun _ => True, F := fun x => ((selI (errM x.1) (w64 (detZ x.1)) : Int), (errM x.1 : Int), ()) }
def T_Det (m : M3) : Prop :=
  (True ∧
(((!(decide (errM m = 0))) = true →
 (0, (errM m, ())) = (selI (errM m) (w64 (detZ m)), (errM m, ()))) ∧
((!(decide (errM m = 0))) = false →
(True ∧
(w64 (detZ m), (0, ())) = (selI (errM m) (w64 (detZ m)), (errM m, ()))))))
theorem r_Det (x : HL C_Det.args) : runs (env0 [(21, C_check), (95, C_det)] [] []) 400 105 C_Det x = T_Det x.1 := by kernel_rfl
theorem p_Det (m : M3) (h0 : (Sh.agg .mat).okA m) : T_Det m := by
  rcases errM_cases m with hm | hm <;> simp [T_Det, hm, selI, selM, trcZ, w64_add_l, w64_add_r, w64_sub_l, w64_sub_r, w64_mul_l, w64_mul_r, w64_w64]
theorem s_Det : Sound Tryz.prog 105 C_Det :=
  sound_of_eq (env0_ok (.cons s_check (.cons s_det (.nil)))) (fun x => T_Det x.1) r_Det fun x ok hp => p_Det x.1 ok.1
noncomputable def C_unit : Contract := { args := [.agg .mat], res := [.int .i64, .int .i64], pre := fun _ => True, F := fun x => ((selI (uniE x.1) (w64 (detZ x.1)) : Int), (uniE x.1 : Int), ()) }
def T_unit (m : M3) : Prop :=
  (True ∧
(((!(decide (errM m = 0))) = true →
 (0, (errM m, ())) = (selI (uniE m) (w64 (detZ m)), (uniE m, ()))) ∧
((!(decide (errM m = 0))) = false →
(True ∧
(((!(decide (w64 (detZ m) = 1))) = true →
 (((!(decide (w64 (detZ m) = (-1)))) = true →
  (0, (3, ())) = (selI (uniE m) (w64 (detZ m)), (uniE m, ()))) ∧
 ((!(decide (w64 (detZ m) = (-1)))) = false →
 (w64 (detZ m), (0, ())) = (selI (uniE m) (w64 (detZ m)), (uniE m, ()))))) ∧
((!(decide (w64 (detZ m) = 1))) = false →
(w64 (detZ m), (0, ())) = (selI (uniE m) (w64 (detZ m)), (uniE m, ()))))))))
theorem r_unit (x : HL C_unit.args) : runs (env0 [(21, C_check), (95, C_det)] [] []) 400 74 C_unit x = T_unit x.1 := by kernel_rfl
theorem p_unit (m : M3) (h0 : (Sh.agg .mat).okA m) : T_unit m := by
  rcases errM_cases m with hm | hm <;> simp [T_unit, hm, uniE, selI] <;> grind
theorem s_unit : Sound Tryz.prog 74 C_unit :=
  sound_of_eq (env0_ok (.cons s_check (.cons s_det (.nil)))) (fun x => T_unit x.1) r_unit fun x ok hp => p_unit x.1 ok.1
noncomputable def C_Inverse : Contract := { args := [.agg .mat], res := [.agg .mat, .int .i64], pre := fun _ => True, F := fun x => ((selM (uniE x.1) (wM (scaZ (detZ x.1) (adjZ x.1))) : M3), (uniE x.1 : Int), ()) }
def T_Inverse (m : M3) : Prop :=
  (True ∧
(((!(decide (uniE m = 0))) = true →
 ((M3.mk 0 0 0 0 0 0 0 0 0), (uniE m, ())) = (selM (uniE m) (wM (scaZ (detZ m) (adjZ m))), (uniE m, ()))) ∧
((!(decide (uniE m = 0))) = false →
(True ∧
((M3.mk ((w64 (((wM (adjZ m)).xx * selI (uniE m) (w64 (detZ m)))))) ((w64 (((wM (adjZ m)).xy * selI (uniE m) (w64 (detZ m)))))) ((w64 (((wM (adjZ m)).xz * selI (uniE m) (w64 (detZ m)))))) ((w64 (((wM (adjZ m)).yx * selI (uniE m) (w64 (detZ m)))))) ((w64 (((wM (adjZ m)).yy * selI (uniE m) (w64 (detZ m)))))) ((w64 (((wM (adjZ m)).yz * selI (uniE m) (w64 (detZ m)))))) ((w64 (((wM (adjZ m)).zx * selI (uniE m) (w64 (detZ m)))))) ((w64 (((wM (adjZ m)).zy * selI (uniE m) (w64 (detZ m)))))) ((w64 (((wM (adjZ m)).zz * selI (uniE m) (w64 (detZ m))))))), (0, ())) = (selM (uniE m) (wM (scaZ (detZ m) (adjZ m))), (uniE m, ()))))))
theorem r_Inverse (x : HL C_Inverse.args) : runs (env0 [(74, C_unit), (75, C_adjugate)] [] []) 400 40 C_Inverse x = T_Inverse x.1 := by kernel_rfl
theorem p_Inverse (m : M3) (h0 : (Sh.agg .mat).okA m) : T_Inverse m := by
  by_cases hu : uniE m = 0 <;> simp [T_Inverse, hu, selM, selI, wM, scaZ, adjZ, w64_add_l, w64_add_r, w64_sub_l, w64_sub_r, w64_mul_l, w64_mul_r, w64_w64]
theorem s_Inverse : Sound Tryz.prog 40 C_Inverse :=
  sound_of_eq (env0_ok (.cons s_unit (.cons s_adjugate (.nil)))) (fun x => T_Inverse x.1) r_Inverse fun x ok hp => p_Inverse x.1 ok.1
noncomputable def C_opmod : Contract := { args := [.int .i64], res := [.int .i64], pre := fun _ => True, F := fun x => ((r24 x.1 : Int), ()) }
def T_opmod (n : Int) : Prop :=
  ((((Int.tmod n 24) + 24) % 24), ()) = (r24 n, ())
theorem r_opmod (x : HL C_opmod.args) : runs (env0 [] [] []) 400 107 C_opmod x = T_opmod x.1 := by kernel_rfl
theorem p_opmod (n : Int) (h0 : (Sh.int .i64).okA n) : T_opmod n := by
  rfl
theorem s_opmod : Sound Tryz.prog 107 C_opmod :=
  sound_of_eq (env0_ok (.nil)) (fun x => T_opmod x.1) r_opmod fun x ok hp => p_opmod x.1 ok.1
noncomputable def C_fmod : Contract := { args := [.int .i64, .int .i64], res := [.int .i64], pre := fun x => inM x.2.1, F := fun x => ((emo x.1 x.2.1 : Int), ()) }
def T_fmod (n : Int) (m : Int) : Prop :=
  ((m ≠ 0) ∧
((m ≠ 0) ∧
((Int.tmod ((w64 (((Int.tmod n m) + m)))) m), ()) = (emo n m, ())))
theorem r_fmod (x : HL C_fmod.args) : runs (env0 [] [] []) 400 67 C_fmod x = T_fmod x.1 x.2.1 := by kernel_rfl
theorem p_fmod (n : Int) (m : Int) (h0 : (Sh.int .i64).okA n) (h1 : (Sh.int .i64).okA m) (hp : inM m) : T_fmod n m := by
  obtain ⟨e1, e2, e3⟩ := fmod_eq (n := n) hp
  exact ⟨e3, e3, by rw [e1, e2]; rfl⟩
theorem s_fmod : Sound Tryz.prog 67 C_fmod :=
  sound_of_eq (env0_ok (.nil)) (fun x => T_fmod x.1 x.2.1) r_fmod fun x ok hp => p_fmod x.1 x.2.1 ok.1 ok.2.1 hp
noncomputable def C_fAdd : Contract := { args := [.agg .vec, .agg .vec], res := [.agg .vec], pre := fun _ => True, F := fun x => ((addT x.1 x.2.1 : V3), ()) }
def T_fAdd (a : V3) (b : V3) : Prop :=
  (inM 24 ∧
(inM 24 ∧
(inM 24 ∧
((V3.mk (emo (((Int.tmod a.x 24) + (Int.tmod b.x 24))) 24) (emo (((Int.tmod a.y 24) + (Int.tmod b.y 24))) 24) (emo (((Int.tmod a.z 24) + (Int.tmod b.z 24))) 24)), ()) = (addT a b, ()))))
theorem r_fAdd (x : HL C_fAdd.args) : runs (env0 [(67, C_fmod)] [] []) 400 45 C_fAdd x = T_fAdd x.1 x.2.1 := by kernel_rfl
theorem p_fAdd (a : V3) (b : V3) (h0 : (Sh.agg .vec).okA a) (h1 : (Sh.agg .vec).okA b) : T_fAdd a b := by
  refine ⟨k24, k24, k24, ?_⟩
  simp only [emo, add24']; rfl
theorem s_fAdd : Sound Tryz.prog 45 C_fAdd :=
  sound_of_eq (env0_ok (.cons s_fmod (.nil))) (fun x => T_fAdd x.1 x.2.1) r_fAdd fun x ok hp => p_fAdd x.1 x.2.1 ok.1 ok.2.1
noncomputable def C_fNeg : Contract := { args := [.agg .vec], res := [.agg .vec], pre := fun _ => True, F := fun x => ((negT x.1 : V3), ()) }
def T_fNeg (a : V3) : Prop :=
  (inM 24 ∧
(inM 24 ∧
(inM 24 ∧
((V3.mk (emo ((0 - (Int.tmod a.x 24))) 24) (emo ((0 - (Int.tmod a.y 24))) 24) (emo ((0 - (Int.tmod a.z 24))) 24)), ()) = (negT a, ()))))
theorem r_fNeg (x : HL C_fNeg.args) : runs (env0 [(67, C_fmod)] [] []) 400 34 C_fNeg x = T_fNeg x.1 := by kernel_rfl
theorem p_fNeg (a : V3) (h0 : (Sh.agg .vec).okA a) : T_fNeg a := by
  refine ⟨k24, k24, k24, ?_⟩
  simp only [emo, neg24']; rfl
theorem s_fNeg : Sound Tryz.prog 34 C_fNeg :=
  sound_of_eq (env0_ok (.cons s_fmod (.nil))) (fun x => T_fNeg x.1) r_fNeg fun x ok hp => p_fNeg x.1 ok.1
noncomputable def C_fSub : Contract := { args := [.agg .vec, .agg .vec], res := [.agg .vec], pre := fun _ => True, F := fun x => ((addT x.1 (negT x.2.1) : V3), ()) }
def T_fSub (a : V3) (b : V3) : Prop :=
  (True ∧
(True ∧
(addT a (negT b), ()) = (addT a (negT b), ())))
theorem r_fSub (x : HL C_fSub.args) : runs (env0 [(45, C_fAdd), (34, C_fNeg)] [] []) 400 46 C_fSub x = T_fSub x.1 x.2.1 := by kernel_rfl
theorem p_fSub (a : V3) (b : V3) (h0 : (Sh.agg .vec).okA a) (h1 : (Sh.agg .vec).okA b) : T_fSub a b := by
  exact ⟨trivial, trivial, rfl⟩
theorem s_fSub : Sound Tryz.prog 46 C_fSub :=
  sound_of_eq (env0_ok (.cons s_fAdd (.cons s_fNeg (.nil)))) (fun x => T_fSub x.1 x.2.1) r_fSub fun x ok hp => p_fSub x.1 x.2.1 ok.1 ok.2.1
noncomputable def C_fright : Contract := { args := [.int .i64], res := [.bool], pre := fun _ => True, F := fun x => ((rgtM x.1 : Bool), ()) }
def T_fright (m : Int) : Prop :=
  (((decide (m = 24)) = true →
 (true, ()) = (rgtM m, ())) ∧
((decide (m = 24)) = false →
(((decide (m = 48)) = true →
 (true, ()) = (rgtM m, ())) ∧
((decide (m = 48)) = false →
(((decide (m = 96)) = true →
 (true, ()) = (rgtM m, ())) ∧
((decide (m = 96)) = false →
((decide (m = 192)), ()) = (rgtM m, ())))))))
theorem r_fright (x : HL C_fright.args) : runs (env0 [] [] []) 400 63 C_fright x = T_fright x.1 := by kernel_rfl
theorem p_fright (m : Int) (h0 : (Sh.int .i64).okA m) : T_fright m := by
  by_cases h1 : m = 24 <;> by_cases h2 : m = 48 <;> by_cases h3 : m = 96 <;> by_cases h4 : m = 192 <;> simp [T_fright, rgtM, h1, h2, h3, h4]
theorem s_fright : Sound Tryz.prog 63 C_fright :=
  sound_of_eq (env0_ok (.nil)) (fun x => T_fright x.1) r_fright fun x ok hp => p_fright x.1 ok.1
noncomputable def C_fForm : Contract := { args := [.agg .pt], res := [.bool], pre := fun _ => True, F := fun x => ((frmP x.1 : Bool), ()) }
def T_fForm (p : Pt) : Prop :=
  (True ∧
(((!rgtM p.M) = true →
 (false, ()) = (frmP p, ())) ∧
((!rgtM p.M) = false →
(((decide (p.X.x < 0)) = true →
 (false, ()) = (frmP p, ())) ∧
((decide (p.X.x < 0)) = false →
(((decide (p.M ≤ p.X.x)) = true →
 (false, ()) = (frmP p, ())) ∧
((decide (p.M ≤ p.X.x)) = false →
(((decide (p.X.y < 0)) = true →
 (false, ()) = (frmP p, ())) ∧
((decide (p.X.y < 0)) = false →
(((decide (p.M ≤ p.X.y)) = true →
 (false, ()) = (frmP p, ())) ∧
((decide (p.M ≤ p.X.y)) = false →
(((decide (p.X.z < 0)) = true →
 (false, ()) = (frmP p, ())) ∧
((decide (p.X.z < 0)) = false →
(((decide (p.M ≤ p.X.z)) = true →
 (false, ()) = (frmP p, ())) ∧
((decide (p.M ≤ p.X.z)) = false →
(true, ()) = (frmP p, ()))))))))))))))))
theorem r_fForm (x : HL C_fForm.args) : runs (env0 [(63, C_fright)] [] []) 400 30 C_fForm x = T_fForm x.1 := by kernel_rfl
theorem p_fForm (p : Pt) (h0 : (Sh.agg .pt).okA p) : T_fForm p := by
  have key : ∀ b : Bool, (b = true ↔ frmP p = true) → (b, ()) = (frmP p, ()) := fun b h => by rw [Bool.eq_iff_iff.2 h]
  unfold T_fForm
  have hr := rgt_iff (m := p.M)
  simp only [decide_eq_true_eq, decide_eq_false_iff_not]
  repeat' (first | apply And.intro | intro _ | exact trivial)
  all_goals (refine key _ ?_; rw [frmP_iff, ← hr]; simp_all <;> omega)
theorem s_fForm : Sound Tryz.prog 30 C_fForm :=
  sound_of_eq (env0_ok (.cons s_fright (.nil))) (fun x => T_fForm x.1) r_fForm fun x ok hp => p_fForm x.1 ok.1
noncomputable def C_fPlace : Contract := { args := [.int .i64, .agg .vec], res := [.agg .pt, .int .i64], pre := fun _ => True, F := fun x => ((plaP x.1 x.2.1 : Pt), (plaE x.1 : Int), ()) }
def T_fPlace (m : Int) (v : V3) : Prop :=
  (True ∧
(((!rgtM m) = true →
 ((Pt.mk 0 (V3.mk 0 0 0)), (1, ())) = (plaP m v, (plaE m, ()))) ∧
((!rgtM m) = false →
((inM m ∧
 (inM m ∧
 (inM m ∧
 ((Pt.mk m ((V3.mk (emo v.x m) (emo v.y m) (emo v.z m)))), (0, ())) = (plaP m v, (plaE m, ()))))) ∧
((inM m ∧
 (inM m ∧
 (inM m ∧
 ((Pt.mk m ((V3.mk (emo v.x m) (emo v.y m) (emo v.z m)))), (0, ())) = (plaP m v, (plaE m, ()))))) ∧
(inM m ∧
(inM m ∧
(inM m ∧
((Pt.mk m ((V3.mk (emo v.x m) (emo v.y m) (emo v.z m)))), (0, ())) = (plaP m v, (plaE m, ()))))))))))
theorem r_fPlace (x : HL C_fPlace.args) : runs (env0 [(63, C_fright), (67, C_fmod)] [] []) 400 32 C_fPlace x = T_fPlace x.1 x.2.1 := by kernel_rfl
theorem p_fPlace (m : Int) (v : V3) (h0 : (Sh.int .i64).okA m) (h1 : (Sh.agg .vec).okA v) : T_fPlace m v := by
  cases h : rgtM m
  · simp [T_fPlace, h, plaP, plaE, zerP]
  · simp [T_fPlace, h, plaP, plaE, rgt_in h, modV, emo]
theorem s_fPlace : Sound Tryz.prog 32 C_fPlace :=
  sound_of_eq (env0_ok (.cons s_fright (.cons s_fmod (.nil)))) (fun x => T_fPlace x.1 x.2.1) r_fPlace fun x ok hp => p_fPlace x.1 x.2.1 ok.1 ok.2.1
noncomputable def C_fShift : Contract := { args := [.agg .pt, .agg .vec], res := [.agg .pt, .int .i64], pre := fun _ => True, F := fun x => ((shfP x.1 x.2.1 : Pt), (shfE x.1 : Int), ()) }
def T_fShift (p : Pt) (t : V3) : Prop :=
  (True ∧
(((!frmP p) = true →
 ((Pt.mk 0 (V3.mk 0 0 0)), (3, ())) = (shfP p t, (shfE p, ()))) ∧
((!frmP p) = false →
(((True ∧
  (((plaP p.M ((V3.mk ((w64 ((p.X.x + ((Int.tmod t.x 24) * (Int.tdiv p.M 24)))))) ((w64 ((p.X.y + ((Int.tmod t.y 24) * (Int.tdiv p.M 24)))))) ((w64 ((p.X.z + ((Int.tmod t.z 24) * (Int.tdiv p.M 24))))))))), (plaE p.M, ())) = (shfP p t, (shfE p, ())) ∧
  ((plaP p.M ((V3.mk ((w64 ((p.X.x + ((Int.tmod t.x 24) * (Int.tdiv p.M 24)))))) ((w64 ((p.X.y + ((Int.tmod t.y 24) * (Int.tdiv p.M 24)))))) ((w64 ((p.X.z + ((Int.tmod t.z 24) * (Int.tdiv p.M 24))))))))), (plaE p.M, ())) = (shfP p t, (shfE p, ())))) ∧
 ((True ∧
  (((plaP p.M ((V3.mk ((w64 ((p.X.x + ((Int.tmod t.x 24) * (Int.tdiv p.M 24)))))) ((w64 ((p.X.y + ((Int.tmod t.y 24) * (Int.tdiv p.M 24)))))) ((w64 ((p.X.z + ((Int.tmod t.z 24) * (Int.tdiv p.M 24))))))))), (plaE p.M, ())) = (shfP p t, (shfE p, ())) ∧
  ((plaP p.M ((V3.mk ((w64 ((p.X.x + ((Int.tmod t.x 24) * (Int.tdiv p.M 24)))))) ((w64 ((p.X.y + ((Int.tmod t.y 24) * (Int.tdiv p.M 24)))))) ((w64 ((p.X.z + ((Int.tmod t.z 24) * (Int.tdiv p.M 24))))))))), (plaE p.M, ())) = (shfP p t, (shfE p, ())))) ∧
 (True ∧
 (((plaP p.M ((V3.mk ((w64 ((p.X.x + ((Int.tmod t.x 24) * (Int.tdiv p.M 24)))))) ((w64 ((p.X.y + ((Int.tmod t.y 24) * (Int.tdiv p.M 24)))))) ((w64 ((p.X.z + ((Int.tmod t.z 24) * (Int.tdiv p.M 24))))))))), (plaE p.M, ())) = (shfP p t, (shfE p, ())) ∧
 ((plaP p.M ((V3.mk ((w64 ((p.X.x + ((Int.tmod t.x 24) * (Int.tdiv p.M 24)))))) ((w64 ((p.X.y + ((Int.tmod t.y 24) * (Int.tdiv p.M 24)))))) ((w64 ((p.X.z + ((Int.tmod t.z 24) * (Int.tdiv p.M 24))))))))), (plaE p.M, ())) = (shfP p t, (shfE p, ())))))) ∧
(((True ∧
  (((plaP p.M ((V3.mk ((w64 ((p.X.x + ((Int.tmod t.x 24) * (Int.tdiv p.M 24)))))) ((w64 ((p.X.y + ((Int.tmod t.y 24) * (Int.tdiv p.M 24)))))) ((w64 ((p.X.z + ((Int.tmod t.z 24) * (Int.tdiv p.M 24))))))))), (plaE p.M, ())) = (shfP p t, (shfE p, ())) ∧
  ((plaP p.M ((V3.mk ((w64 ((p.X.x + ((Int.tmod t.x 24) * (Int.tdiv p.M 24)))))) ((w64 ((p.X.y + ((Int.tmod t.y 24) * (Int.tdiv p.M 24)))))) ((w64 ((p.X.z + ((Int.tmod t.z 24) * (Int.tdiv p.M 24))))))))), (plaE p.M, ())) = (shfP p t, (shfE p, ())))) ∧
 (True ∧
 (((plaP p.M ((V3.mk ((w64 ((p.X.x + ((Int.tmod t.x 24) * (Int.tdiv p.M 24)))))) ((w64 ((p.X.y + ((Int.tmod t.y 24) * (Int.tdiv p.M 24)))))) ((w64 ((p.X.z + ((Int.tmod t.z 24) * (Int.tdiv p.M 24))))))))), (plaE p.M, ())) = (shfP p t, (shfE p, ())) ∧
 ((plaP p.M ((V3.mk ((w64 ((p.X.x + ((Int.tmod t.x 24) * (Int.tdiv p.M 24)))))) ((w64 ((p.X.y + ((Int.tmod t.y 24) * (Int.tdiv p.M 24)))))) ((w64 ((p.X.z + ((Int.tmod t.z 24) * (Int.tdiv p.M 24))))))))), (plaE p.M, ())) = (shfP p t, (shfE p, ()))))) ∧
(True ∧
(((plaP p.M ((V3.mk ((w64 ((p.X.x + ((Int.tmod t.x 24) * (Int.tdiv p.M 24)))))) ((w64 ((p.X.y + ((Int.tmod t.y 24) * (Int.tdiv p.M 24)))))) ((w64 ((p.X.z + ((Int.tmod t.z 24) * (Int.tdiv p.M 24))))))))), (plaE p.M, ())) = (shfP p t, (shfE p, ())) ∧
((plaP p.M ((V3.mk ((w64 ((p.X.x + ((Int.tmod t.x 24) * (Int.tdiv p.M 24)))))) ((w64 ((p.X.y + ((Int.tmod t.y 24) * (Int.tdiv p.M 24)))))) ((w64 ((p.X.z + ((Int.tmod t.z 24) * (Int.tdiv p.M 24))))))))), (plaE p.M, ())) = (shfP p t, (shfE p, ())))))))))
theorem r_fShift (x : HL C_fShift.args) : runs (env0 [(30, C_fForm), (32, C_fPlace)] [] []) 400 33 C_fShift x = T_fShift x.1 x.2.1 := by kernel_rfl
theorem p_fShift (p : Pt) (t : V3) (h0 : (Sh.agg .pt).okA p) (h1 : (Sh.agg .vec).okA t) : T_fShift p t := by
  cases h : frmP p
  · simp [T_fShift, h, shfP, shfE, zerP]
  · obtain ⟨e1, e2⟩ := shf_ok h t
    simp [T_fShift, h, shfP, shfE, e1, e2]
theorem s_fShift : Sound Tryz.prog 33 C_fShift :=
  sound_of_eq (env0_ok (.cons s_fForm (.cons s_fPlace (.nil)))) (fun x => T_fShift x.1 x.2.1) r_fShift fun x ok hp => p_fShift x.1 x.2.1 ok.1 ok.2.1
noncomputable def C_cmpInt : Contract := { args := [.int .i64, .int .i64], res := [.int .i64], pre := fun _ => True, F := fun x => ((cmpE x.1 x.2.1 0 : Int), ()) }
def T_cmpInt (a : Int) (b : Int) : Prop :=
  (((!(decide (a = a))) = true →
 (((!(decide (b = b))) = true →
  (0, ()) = (cmpE a b 0, ())) ∧
 ((!(decide (b = b))) = false →
 ((-1), ()) = (cmpE a b 0, ())))) ∧
((!(decide (a = a))) = false →
(((!(decide (b = b))) = true →
 (1, ()) = (cmpE a b 0, ())) ∧
((!(decide (b = b))) = false →
(((decide (a < b)) = true →
 ((-1), ()) = (cmpE a b 0, ())) ∧
((decide (a < b)) = false →
(((decide (b < a)) = true →
 (1, ()) = (cmpE a b 0, ())) ∧
((decide (b < a)) = false →
(0, ()) = (cmpE a b 0, ())))))))))
theorem r_cmpInt (x : HL C_cmpInt.args) : runs (env0 [] [] []) 400 51 C_cmpInt x = T_cmpInt x.1 x.2.1 := by kernel_rfl
theorem p_cmpInt (a : Int) (b : Int) (h0 : (Sh.int .i64).okA a) (h1 : (Sh.int .i64).okA b) : T_cmpInt a b := by
  by_cases h1 : a < b <;> by_cases h2 : b < a <;> simp [T_cmpInt, cmpE, h1, h2]
theorem s_cmpInt : Sound Tryz.prog 51 C_cmpInt :=
  sound_of_eq (env0_ok (.nil)) (fun x => T_cmpInt x.1 x.2.1) r_cmpInt fun x ok hp => p_cmpInt x.1 x.2.1 ok.1 ok.2.1
end Go.Fx
