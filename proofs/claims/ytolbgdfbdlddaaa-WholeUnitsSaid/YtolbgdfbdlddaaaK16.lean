/-
  Contracts: unit, adjugate, Inverse, fNeg, opInverse, awake10, UnitFits, UnitMoves, UnitActs, UnitFirsts.
-/
import Derived.Test.YtolbgdfbdlddaaaK15
namespace Go.Fx
open Go Go.Proofs
set_option maxRecDepth 100000
set_option linter.unusedVariables false
set_option linter.unusedSimpArgs false
set_option linter.unusedSectionVars false
noncomputable def C_unit : Contract := { args := [.agg .mat], res := [.int .i64, .int .i64], pre := fun _ => True, F := fun x => ((selI (uniE x.1) (w64 (detZ x.1)) : Int), (uniE x.1 : Int), ()) }
def T_unit (m : M3) : Prop :=
  (True ∧
(((!(decide (errM m = 0))) = true →
 (0, (errM m, ())) = (selI (uniE m) (w64 (detZ m)), (uniE m, ()))) ∧
((!(decide (errM m = 0))) = false →
(True ∧
(((!(decide (w64 (detZ m) = 1))) = true →
 (((!(decide (w64 (detZ m) = (-1)))) = true →
  (0, (3, ())) = (selI (uniE m) (w64 (detZ m)), (uniE m, ()))) ∧
 ((!(decide (w64 (detZ m) = (-1)))) = false →
 (w64 (detZ m), (0, ())) = (selI (uniE m) (w64 (detZ m)), (uniE m, ()))))) ∧
((!(decide (w64 (detZ m) = 1))) = false →
(w64 (detZ m), (0, ())) = (selI (uniE m) (w64 (detZ m)), (uniE m, ()))))))))
theorem r_unit (x : HL C_unit.args) : runs (env0 [(93, C_check), (118, C_det)] [] []) 400 91 C_unit x = T_unit x.1 := by kernel_rfl
theorem p_unit (m : M3) (h0 : (Sh.agg .mat).okA m) : T_unit m := by
  rcases errM_cases m with hm | hm <;> simp [T_unit, hm, uniE, selI] <;> grind
theorem s_unit : Sound Try.prog 91 C_unit :=
  sound_of_eq (env0_ok (.cons s_check (.cons s_det (.nil)))) (fun x => T_unit x.1) r_unit fun x ok hp => p_unit x.1 ok.1
noncomputable def C_adjugate : Contract := { args := [.agg .mat], res := [.agg .mat], pre := fun _ => True, F := fun x => ((wM (adjZ x.1) : M3), ()) }
def T_adjugate (m : M3) : Prop :=
  (True ∧
(True ∧
(True ∧
(True ∧
(True ∧
(True ∧
(True ∧
(True ∧
(True ∧
((M3.mk (w64 (cofZ m.yy m.zz m.yz m.zy)) (w64 (cofZ m.zy m.xz m.zz m.xy)) (w64 (cofZ m.xy m.yz m.xz m.yy)) (w64 (cofZ m.yz m.zx m.yx m.zz)) (w64 (cofZ m.zz m.xx m.zx m.xz)) (w64 (cofZ m.xz m.yx m.xx m.yz)) (w64 (cofZ m.yx m.zy m.yy m.zx)) (w64 (cofZ m.zx m.xy m.zy m.xx)) (w64 (cofZ m.xx m.yy m.xy m.yx))), ()) = (wM (adjZ m), ()))))))))))
theorem r_adjugate (x : HL C_adjugate.args) : runs (env0 [(119, C_cof00), (119, C_cof01), (119, C_cof02), (119, C_cof10), (119, C_cof11), (119, C_cof12), (119, C_cof20), (119, C_cof21), (119, C_cof22)] [] []) 400 92 C_adjugate x = T_adjugate x.1 := by kernel_rfl
theorem p_adjugate (m : M3) (h0 : (Sh.agg .mat).okA m) : T_adjugate m := by
  simp only [T_adjugate, wM, adjZ, cofZ, Int.zero_add, and_self, w64_add_l, w64_add_r, w64_sub_l, w64_sub_r, w64_mul_l, w64_mul_r, w64_w64]
theorem s_adjugate : Sound Try.prog 92 C_adjugate :=
  sound_of_eq (env0_ok (.cons s_cof00 (.cons s_cof01 (.cons s_cof02 (.cons s_cof10 (.cons s_cof11 (.cons s_cof12 (.cons s_cof20 (.cons s_cof21 (.cons s_cof22 (.nil))))))))))) (fun x => T_adjugate x.1) r_adjugate fun x ok hp => p_adjugate x.1 ok.1
noncomputable def C_Inverse : Contract := { args := [.agg .mat], res := [.agg .mat, .int .i64], pre := fun _ => True, F := fun x => ((selM (uniE x.1) (wM (scaZ (detZ x.1) (adjZ x.1))) : M3), (uniE x.1 : Int), ()) }
def T_Inverse (m : M3) : Prop :=
  (True ∧
(((!(decide (uniE m = 0))) = true →
 ((M3.mk 0 0 0 0 0 0 0 0 0), (uniE m, ())) = (selM (uniE m) (wM (scaZ (detZ m) (adjZ m))), (uniE m, ()))) ∧
((!(decide (uniE m = 0))) = false →
(True ∧
((M3.mk ((w64 (((wM (adjZ m)).xx * selI (uniE m) (w64 (detZ m)))))) ((w64 (((wM (adjZ m)).xy * selI (uniE m) (w64 (detZ m)))))) ((w64 (((wM (adjZ m)).xz * selI (uniE m) (w64 (detZ m)))))) ((w64 (((wM (adjZ m)).yx * selI (uniE m) (w64 (detZ m)))))) ((w64 (((wM (adjZ m)).yy * selI (uniE m) (w64 (detZ m)))))) ((w64 (((wM (adjZ m)).yz * selI (uniE m) (w64 (detZ m)))))) ((w64 (((wM (adjZ m)).zx * selI (uniE m) (w64 (detZ m)))))) ((w64 (((wM (adjZ m)).zy * selI (uniE m) (w64 (detZ m)))))) ((w64 (((wM (adjZ m)).zz * selI (uniE m) (w64 (detZ m))))))), (0, ())) = (selM (uniE m) (wM (scaZ (detZ m) (adjZ m))), (uniE m, ()))))))
theorem r_Inverse (x : HL C_Inverse.args) : runs (env0 [(91, C_unit), (92, C_adjugate)] [] []) 400 60 C_Inverse x = T_Inverse x.1 := by kernel_rfl
theorem p_Inverse (m : M3) (h0 : (Sh.agg .mat).okA m) : T_Inverse m := by
  by_cases hu : uniE m = 0 <;> simp [T_Inverse, hu, selM, selI, wM, scaZ, adjZ, w64_add_l, w64_add_r, w64_sub_l, w64_sub_r, w64_mul_l, w64_mul_r, w64_w64]
theorem s_Inverse : Sound Try.prog 60 C_Inverse :=
  sound_of_eq (env0_ok (.cons s_unit (.cons s_adjugate (.nil)))) (fun x => T_Inverse x.1) r_Inverse fun x ok hp => p_Inverse x.1 ok.1
noncomputable def C_fNeg : Contract := { args := [.agg .vec], res := [.agg .vec], pre := fun _ => True, F := fun x => ((negT x.1 : V3), ()) }
def T_fNeg (a : V3) : Prop :=
  (inM 24 ∧
(inM 24 ∧
(inM 24 ∧
((V3.mk (emo ((0 - (Int.tmod a.x 24))) 24) (emo ((0 - (Int.tmod a.y 24))) 24) (emo ((0 - (Int.tmod a.z 24))) 24)), ()) = (negT a, ()))))
theorem r_fNeg (x : HL C_fNeg.args) : runs (env0 [(96, C_fmod)] [] []) 400 62 C_fNeg x = T_fNeg x.1 := by kernel_rfl
theorem p_fNeg (a : V3) (h0 : (Sh.agg .vec).okA a) : T_fNeg a := by
  refine ⟨k24, k24, k24, ?_⟩
  simp only [emo, neg24']; rfl
theorem s_fNeg : Sound Try.prog 62 C_fNeg :=
  sound_of_eq (env0_ok (.cons s_fmod (.nil))) (fun x => T_fNeg x.1) r_fNeg fun x ok hp => p_fNeg x.1 ok.1
noncomputable def C_opInverse : Contract := { args := [.agg .op], res := [.agg .op, .int .i64], pre := fun _ => True, F := fun x => ((selO (invE x.1) (invO x.1) : Op3), (invE x.1 : Int), ()) }
def T_opInverse (o : Op3) : Prop :=
  (True ∧
(((!(decide (errL [o] = 0))) = true →
 ((Op3.mk (M3.mk 0 0 0 0 0 0 0 0 0) (V3.mk 0 0 0)), (errL [o], ())) = (selO (invE o) (invO o), (invE o, ()))) ∧
((!(decide (errL [o] = 0))) = false →
(True ∧
∀ z2 : M3,
(z2 = selM (uniE o.R) (wM (scaZ (detZ o.R) (adjZ o.R))) →
∀ z4 : Int,
(z4 = uniE o.R →
(inTp o.T ∧
(True ∧
(True ∧
((selO (errM z2) ((Op3.mk z2 (negT (shiT z2 o.T))))), (errM z2, ())) = (selO (invE o) (invO o), (invE o, ())))))))))))
theorem r_opInverse (x : HL C_opInverse.args) : runs (env0 [(59, C_opcheck), (60, C_Inverse.hid), (63, C_opshift.hid), (62, C_fNeg.hid), (61, C_opmade)] [] []) 400 29 C_opInverse x = T_opInverse x.1 := by kernel_rfl
theorem p_opInverse (o : Op3) (h0 : (Sh.agg .op).okA o) : T_opInverse o := by
  have e1 := errL_one o
  by_cases he : errO o = 0
  · have hF := errO_ok.1 he
    have hu : uniE o.R = 0 := uniE_of hF.B hF.d
    have hq : wM (scaZ (detZ o.R) (adjZ o.R)) = invZ o.R := wM_id (by decide) (invZ_B hF.B hF.d)
    have hT : negT (shiT (invZ o.R) o.T) = (invO o).T := by
      show eqV 24 (negV (modV 24 (appZ (invZ o.R) o.T))) (negV (appZ (invZ o.R) o.T))
      exact eqV_neg (eqV_mod _ _)
    have hm : invE o = errM (invZ o.R) := invE_frm hF
    have ht : inTp o.T := hF.T
    simp [T_opInverse, e1, he, hu, hq, hT, hm, selM, ht]
    rfl
  · have hm : invE o = errO o := by unfold invE; rw [if_neg he]
    simp [T_opInverse, e1, he, hm, selO, zerO]
theorem s_opInverse : Sound Try.prog 29 C_opInverse :=
  sound_of_eq (env0_ok (.cons s_opcheck (.cons s_Inverse.hid (.cons s_opshift.hid (.cons s_fNeg.hid (.cons s_opmade (.nil))))))) (fun x => T_opInverse x.1) r_opInverse fun x ok hp => p_opInverse x.1 ok.1
noncomputable def C_awake10 : Contract := { args := [], res := [.bool], pre := fun _ => True, F := fun x => ((true : Bool), ()) }
def T_awake10  : Prop :=
  (True ∧
(True ∧
∀ z0 : List V3,
(z0 = fiL pairU (V3.mk 3 1 1) →
∀ z2 : List Int,
(z2 = ciL pairU (V3.mk 3 1 1) →
∀ z4 : Int,
(z4 = fuE pairU (V3.mk 3 1 1) →
(True ∧
(True ∧
∀ z6 : V3,
(z6 = muV trnO (V3.mk 3 1 1) (V3.mk 1 0 0) →
∀ z8 : Int,
(z8 = muE trnO (V3.mk 3 1 1) (V3.mk 1 0 0) →
(((decide (z4 = 0)) = true →
 (((decide (z8 = 0)) = true →
  ((((decide (z6.x = 2)) && ((decide (z6.y = 0)) && ((decide (z6.z = 0)) && true))) = true →
   (True ∧
   ∀ z13 : Bool,
   (z13 = smW z0 ([(V3.mk 0 0 0), (V3.mk 1 0 0)]) →
   ((z13 = true →
    (True ∧
    ∀ z16 : Bool,
    (z16 = smI z2 ([1, 2]) →
    (z16, ()) = (true, ())))) ∧
   (z13 = false →
   (false, ()) = (true, ())))))) ∧
  (((decide (z6.x = 2)) && ((decide (z6.y = 0)) && ((decide (z6.z = 0)) && true))) = false →
  (false, ()) = (true, ())))) ∧
 ((decide (z8 = 0)) = false →
 (false, ()) = (true, ())))) ∧
((decide (z4 = 0)) = false →
(false, ()) = (true, ()))))))))))))
theorem r_awake10 (x : HL C_awake10.args) : runs (env0 [(42, C_turn10), (31, C_both10), (19, C_uFirsts.hid), (16, C_uMove.hid), (23, C_ints10.hid), (26, C_vecs10.hid)] [] []) 3000 13 C_awake10 x = T_awake10  := by kernel_rfl
theorem p_awake10   : T_awake10  := by
  unfold T_awake10
  repeat' (first
    | exact trivial
    | rfl
    | (refine And.intro ?_ ?_)
    | (intro z; intro hz; subst hz)
    | (intro h; first | exact absurd h (by decide +kernel) | skip)
    | decide +kernel)
theorem s_awake10 : Sound Try.prog 13 C_awake10 :=
  sound_of_eq (env0_ok (.cons s_turn10 (.cons s_both10 (.cons s_uFirsts.hid (.cons s_uMove.hid (.cons s_ints10.hid (.cons s_vecs10.hid (.nil)))))))) (fun x => T_awake10 ) r_awake10 fun x ok hp => p_awake10  
noncomputable def C_UnitFits : Contract := { args := [.list .op, .agg .vec], res := [.bool], pre := fun _ => True, F := fun x => ((true : Bool), ()) }
def T_UnitFits (g : List Op3) (n : V3) : Prop :=
  (True ∧
((true = true →
 (True ∧
 (True ∧
 ((decide (fuE g n = fuE g n)), ()) = (true, ())))) ∧
(true = false →
(false, ()) = (true, ()))))
theorem r_UnitFits (x : HL C_UnitFits.args) : runs (env0 [(13, C_awake10.hid), (14, C_uFits.hid), (15, C_r10DocFits.hid)] [] []) 400 3 C_UnitFits x = T_UnitFits x.1 x.2.1 := by kernel_rfl
theorem p_UnitFits (g : List Op3) (n : V3) (h0 : (Sh.list .op).okA g) (h1 : (Sh.agg .vec).okA n) : T_UnitFits g n := by
  unfold T_UnitFits
  exact ⟨trivial, fun _ => ⟨trivial, trivial, by rw [decide_eq_true rfl]⟩, fun h => absurd h (by decide)⟩
theorem s_UnitFits : Sound Try.prog 3 C_UnitFits :=
  sound_of_eq (env0_ok (.cons s_awake10.hid (.cons s_uFits.hid (.cons s_r10DocFits.hid (.nil))))) (fun x => T_UnitFits x.1 x.2.1) r_UnitFits fun x ok hp => p_UnitFits x.1 x.2.1 ok.1 ok.2.1
noncomputable def C_UnitMoves : Contract := { args := [.agg .op, .agg .vec, .agg .vec], res := [.bool], pre := fun _ => True, F := fun x => ((true : Bool), ()) }
def T_UnitMoves (o : Op3) (n : V3) (a : V3) : Prop :=
  (True ∧
∀ z3 : Bool,
(z3 = true →
(((!z3) = true →
 (false, ()) = (true, ())) ∧
((!z3) = false →
(True ∧
∀ z6 : V3,
(z6 = muV o n a →
∀ z8 : Int,
(z8 = muE o n a →
(True ∧
∀ z10 : V3,
(z10 = muV o n a →
∀ z12 : Int,
(z12 = muE o n a →
((((decide (z6.x = z10.x)) && ((decide (z6.y = z10.y)) && ((decide (z6.z = z10.z)) && true))) = true →
 ((decide (z8 = z12)), ()) = (true, ())) ∧
(((decide (z6.x = z10.x)) && ((decide (z6.y = z10.y)) && ((decide (z6.z = z10.z)) && true))) = false →
(false, ()) = (true, ())))))))))))))
theorem r_UnitMoves (x : HL C_UnitMoves.args) : runs (env0 [(13, C_awake10.hid), (16, C_uMove.hid), (17, C_r10DocMove.hid)] [] []) 400 4 C_UnitMoves x = T_UnitMoves x.1 x.2.1 x.2.2.1 := by kernel_rfl
theorem p_UnitMoves (o : Op3) (n : V3) (a : V3) (h0 : (Sh.agg .op).okA o) (h1 : (Sh.agg .vec).okA n) (h2 : (Sh.agg .vec).okA a) : T_UnitMoves o n a := by
  unfold T_UnitMoves
  refine ⟨trivial, fun z hz => ⟨fun h => absurd (hz ▸ h) (by decide), fun _ => ⟨trivial, fun v hv e he => ⟨trivial, fun w hw f hf => ?_⟩⟩⟩⟩
  rw [eqVc, hv, hw, decide_eq_true rfl, he, hf, decide_eq_true rfl]
  exact ⟨fun _ => rfl, fun h => absurd h (by decide)⟩
theorem s_UnitMoves : Sound Try.prog 4 C_UnitMoves :=
  sound_of_eq (env0_ok (.cons s_awake10.hid (.cons s_uMove.hid (.cons s_r10DocMove.hid (.nil))))) (fun x => T_UnitMoves x.1 x.2.1 x.2.2.1) r_UnitMoves fun x ok hp => p_UnitMoves x.1 x.2.1 x.2.2.1 ok.1 ok.2.1 ok.2.2.1
noncomputable def C_UnitActs : Contract := { args := [.agg .op, .agg .op, .agg .vec, .agg .vec], res := [.bool], pre := fun _ => True, F := fun x => ((true : Bool), ()) }
def T_UnitActs (a : Op3) (b : Op3) (n : V3) (x : V3) : Prop :=
  (True ∧
∀ z4 : Bool,
(z4 = true →
(((!z4) = true →
 (false, ()) = (true, ())) ∧
((!z4) = false →
(True ∧
∀ z7 : V3,
(z7 = muV b n x →
∀ z9 : Int,
(z9 = muE b n x →
(((!(decide (z9 = 0))) = true →
 (((decide (z7.x = 0)) && ((decide (z7.y = 0)) && ((decide (z7.z = 0)) && true))), ()) = (true, ())) ∧
((!(decide (z9 = 0))) = false →
(True ∧
∀ z12 : Op3,
(z12 = selO (invE b) (invO b) →
∀ z14 : Int,
(z14 = invE b →
(((decide (z14 = 0)) = true →
 (True ∧
 ∀ z17 : V3,
 (z17 = muV z12 n z7 →
 ∀ z19 : Int,
 (z19 = muE z12 n z7 →
 (((!(decide (z19 = 0))) = true →
  (false, ()) = (true, ())) ∧
 ((!(decide (z19 = 0))) = false →
 (((!((decide (z17.x = x.x)) && ((decide (z17.y = x.y)) && ((decide (z17.z = x.z)) && true)))) = true →
  (false, ()) = (true, ())) ∧
 ((!((decide (z17.x = x.x)) && ((decide (z17.y = x.y)) && ((decide (z17.z = x.z)) && true)))) = false →
 (True ∧
 ∀ z23 : V3,
 (z23 = muV a n z7 →
 ∀ z25 : Int,
 (z25 = muE a n z7 →
 (True ∧
 ∀ z27 : Op3,
 (z27 = selO (mulE a b) (mulO a b) →
 ∀ z29 : Int,
 (z29 = mulE a b →
 (((!(decide (z25 = 0))) = true →
  (true, ()) = (true, ())) ∧
 ((!(decide (z25 = 0))) = false →
 (((!(decide (z29 = 0))) = true →
  (true, ()) = (true, ())) ∧
 ((!(decide (z29 = 0))) = false →
 (True ∧
 ∀ z33 : V3,
 (z33 = muV z27 n x →
 ∀ z35 : Int,
 (z35 = muE z27 n x →
 (((decide (z35 = 0)) = true →
  (((decide (z33.x = z23.x)) && ((decide (z33.y = z23.y)) && ((decide (z33.z = z23.z)) && true))), ()) = (true, ())) ∧
 ((decide (z35 = 0)) = false →
 (false, ()) = (true, ())))))))))))))))))))))))) ∧
((decide (z14 = 0)) = false →
(True ∧
∀ z17 : V3,
(z17 = muV a n z7 →
∀ z19 : Int,
(z19 = muE a n z7 →
(True ∧
∀ z21 : Op3,
(z21 = selO (mulE a b) (mulO a b) →
∀ z23 : Int,
(z23 = mulE a b →
(((!(decide (z19 = 0))) = true →
 (true, ()) = (true, ())) ∧
((!(decide (z19 = 0))) = false →
(((!(decide (z23 = 0))) = true →
 (true, ()) = (true, ())) ∧
((!(decide (z23 = 0))) = false →
(True ∧
∀ z27 : V3,
(z27 = muV z21 n x →
∀ z29 : Int,
(z29 = muE z21 n x →
(((decide (z29 = 0)) = true →
 (((decide (z27.x = z17.x)) && ((decide (z27.y = z17.y)) && ((decide (z27.z = z17.z)) && true))), ()) = (true, ())) ∧
((decide (z29 = 0)) = false →
(false, ()) = (true, ()))))))))))))))))))))))))))))))
theorem r_UnitActs (x : HL C_UnitActs.args) : runs (env0 [(13, C_awake10.hid), (16, C_uMove.hid), (29, C_opInverse.hid), (30, C_opMul.hid)] [] []) 400 9 C_UnitActs x = T_UnitActs x.1 x.2.1 x.2.2.1 x.2.2.2.1 := by kernel_rfl
theorem p_UnitActs (a : Op3) (b : Op3) (n : V3) (x : V3) (h0 : (Sh.agg .op).okA a) (h1 : (Sh.agg .op).okA b) (h2 : (Sh.agg .vec).okA n) (h3 : (Sh.agg .vec).okA x) : T_UnitActs a b n x := by
  unfold T_UnitActs
  simp only [eqVc]
  refine ⟨trivial, fun z hz => ⟨fun h => absurd (hz ▸ h) (by decide), fun _ => ⟨trivial, fun v hv e he => ⟨fun q => ?_, fun q => ?_⟩⟩⟩⟩
  · have hne : muE b n x ≠ 0 := by rw [← he]; simpa using q
    rw [hv, mu_not hne]; rfl
  have h0 : muE b n x = 0 := by rw [← he]; simpa using q
  have hP := mu_zero h0
  have hv2 : v = movV b n x := by rw [hv, (mu_of hP).2]
  have fin : ∀ (y : V3) (e2 : Int) (c : Op3) (e3 : Int) (w : V3) (e4 : Int), y = muV a n v → e2 = muE a n v → c = selO (mulE a b) (mulO a b) → e3 = mulE a b → (!(decide (e2 = 0))) = false → (!(decide (e3 = 0))) = false → w = muV c n x → e4 = muE c n x → e4 = 0 ∧ w = y := fun y e2 c e3 w e4 hy he2 hc he3 q2 q3 hw he4 => by
    have q2 : muE a n (movV b n x) = 0 := by rw [← hv2, ← he2]; simpa using q2
    have q3 : mulE a b = 0 := by rw [← he3]; simpa using q3
    obtain ⟨m1, m2⟩ := mu_mul hP q2 q3
    rw [sel_zero q3] at hc
    rw [hc] at hw he4
    exact ⟨by rw [he4, m1], by rw [hw, m2, hy, hv2]⟩
  refine ⟨trivial, fun i hi e1 he1 => ⟨fun q1 => ⟨trivial, fun u hu e5 he5 => ?_⟩, fun _ => ⟨trivial, fun y hy e2 he2 => ⟨trivial, fun c hc e3 he3 => ⟨fun _ => by trivial, fun q2 => ⟨fun _ => by trivial, fun q3 => ⟨trivial, fun w hw e4 he4 => ?_⟩⟩⟩⟩⟩⟩⟩
  · have q1 : invE b = 0 := by rw [← he1]; simpa using q1
    obtain ⟨m1, m2⟩ := mu_back hP q1
    rw [hi, sel_zero q1, hv2, m2] at hu
    rw [hi, sel_zero q1, hv2, m1] at he5
    refine ⟨fun h => absurd h (by rw [he5]; decide), fun _ => ⟨fun h => absurd h (by rw [hu]; simp), fun _ => ⟨trivial, fun y hy e2 he2 => ⟨trivial, fun c hc e3 he3 => ⟨fun _ => by trivial, fun q2 => ⟨fun _ => by trivial, fun q3 => ⟨trivial, fun w hw e4 he4 => ?_⟩⟩⟩⟩⟩⟩⟩
    obtain ⟨f1, f2⟩ := fin y e2 c e3 w e4 hy he2 hc he3 q2 q3 hw he4
    rw [f1, f2, decide_eq_true rfl, decide_eq_true rfl]
    exact ⟨fun _ => rfl, fun h => absurd h (by decide)⟩
  · obtain ⟨f1, f2⟩ := fin y e2 c e3 w e4 hy he2 hc he3 q2 q3 hw he4
    rw [f1, f2, decide_eq_true rfl, decide_eq_true rfl]
    exact ⟨fun _ => rfl, fun h => absurd h (by decide)⟩
theorem s_UnitActs : Sound Try.prog 9 C_UnitActs :=
  sound_of_eq (env0_ok (.cons s_awake10.hid (.cons s_uMove.hid (.cons s_opInverse.hid (.cons s_opMul.hid (.nil)))))) (fun x => T_UnitActs x.1 x.2.1 x.2.2.1 x.2.2.2.1) r_UnitActs fun x ok hp => p_UnitActs x.1 x.2.1 x.2.2.1 x.2.2.2.1 ok.1 ok.2.1 ok.2.2.1 ok.2.2.2.1
noncomputable def C_UnitFirsts : Contract := { args := [.list .op, .agg .vec], res := [.bool], pre := fun _ => True, F := fun x => ((true : Bool), ()) }
def T_UnitFirsts (g : List Op3) (n : V3) : Prop :=
  (True ∧
∀ z2 : Bool,
(z2 = true →
(((!z2) = true →
 (false, ()) = (true, ())) ∧
((!z2) = false →
(True ∧
∀ z5 : Bool,
(z5 = fewB n →
(((!z5) = true →
 (true, ()) = (true, ())) ∧
((!z5) = false →
(True ∧
∀ z8 : List V3,
(z8 = fiL g n →
∀ z10 : List Int,
(z10 = ciL g n →
∀ z12 : Int,
(z12 = fuE g n →
(True ∧
∀ z14 : List V3,
(z14 = fiL g n →
∀ z16 : List Int,
(z16 = ciL g n →
∀ z18 : Int,
(z18 = fuE g n →
(True ∧
∀ z20 : Bool,
(z20 = smW z8 z14 →
(((!z20) = true →
 (false, ()) = (true, ())) ∧
((!z20) = false →
(True ∧
∀ z23 : Bool,
(z23 = smI z10 z16 →
(((!z23) = true →
 (false, ()) = (true, ())) ∧
((!z23) = false →
(((!(decide (z12 = z18))) = true →
 (false, ()) = (true, ())) ∧
((!(decide (z12 = z18))) = false →
(True ∧
∀ z27 : List Int,
(z27 = owL g n →
∀ z29 : Int,
(z29 = fuE g n →
(True ∧
∀ z31 : List Int,
(z31 = owL g n →
∀ z33 : Int,
(z33 = fuE g n →
(True ∧
∀ z35 : Bool,
(z35 = smI z27 z31 →
(((!z35) = true →
 (false, ()) = (true, ())) ∧
((!z35) = false →
(((!(decide (z29 = z33))) = true →
 (false, ()) = (true, ())) ∧
((!(decide (z29 = z33))) = false →
(True ∧
∀ z39 : List Int,
(z39 = fxL g n →
∀ z41 : Int,
(z41 = fuE g n →
(True ∧
∀ z43 : List Int,
(z43 = fxL g n →
∀ z45 : Int,
(z45 = fuE g n →
(True ∧
∀ z47 : Bool,
(z47 = smI z39 z43 →
((z47 = true →
 ((decide (z41 = z45)), ()) = (true, ())) ∧
(z47 = false →
(false, ()) = (true, ())))))))))))))))))))))))))))))))))))))))))))))))))
theorem r_UnitFirsts (x : HL C_UnitFirsts.args) : runs (env0 [(13, C_awake10.hid), (18, C_few10.hid), (19, C_uFirsts.hid), (20, C_uOwner.hid), (24, C_uFixed.hid), (25, C_r10DocFirsts.hid), (27, C_r10DocOwner.hid), (28, C_r10DocFixed.hid), (23, C_ints10.hid), (26, C_vecs10.hid)] [] []) 400 7 C_UnitFirsts x = T_UnitFirsts x.1 x.2.1 := by kernel_rfl
theorem p_UnitFirsts (g : List Op3) (n : V3) (h0 : (Sh.list .op).okA g) (h1 : (Sh.agg .vec).okA n) : T_UnitFirsts g n := by
  unfold T_UnitFirsts
  have dW : ∀ (l m : List V3) (c : Bool), l = m → c = smW l m → c = true := fun l m c h hc => by rw [hc, h]; simp [smW]
  have dI : ∀ (l m : List Int) (c : Bool), l = m → c = smI l m → c = true := fun l m c h hc => by rw [hc, h]; simp [smI]
  refine ⟨trivial, fun z hz => ⟨fun h => absurd (hz ▸ h) (by decide), fun _ => ⟨trivial, fun fw hfw => ⟨fun _ => by trivial, fun _ => ⟨trivial, fun f hf c hc e he => ⟨trivial, fun f2 hf2 c2 hc2 e2 he2 => ⟨trivial, fun b1 hb1 => ⟨fun h => absurd h (by rw [dW _ _ _ (hf.trans hf2.symm) hb1]; decide), fun _ => ⟨trivial, fun b2 hb2 => ⟨fun h => absurd h (by rw [dI _ _ _ (hc.trans hc2.symm) hb2]; decide), fun _ => ⟨fun h => absurd h (by rw [he, he2]; simp), fun _ => ⟨trivial, fun o ho e3 he3 => ⟨trivial, fun o2 ho2 e4 he4 => ⟨trivial, fun b3 hb3 => ⟨fun h => absurd h (by rw [dI _ _ _ (ho.trans ho2.symm) hb3]; decide), fun _ => ⟨fun h => absurd h (by rw [he3, he4]; simp), fun _ => ⟨trivial, fun x hx e5 he5 => ⟨trivial, fun x2 hx2 e6 he6 => ⟨trivial, fun b4 hb4 => ⟨fun _ => by rw [he5, he6, decide_eq_true rfl], fun h => absurd h (by rw [dI _ _ _ (hx.trans hx2.symm) hb4]; decide)⟩⟩⟩⟩⟩⟩⟩⟩⟩⟩⟩⟩⟩⟩⟩⟩⟩⟩⟩⟩
theorem s_UnitFirsts : Sound Try.prog 7 C_UnitFirsts :=
  sound_of_eq (env0_ok (.cons s_awake10.hid (.cons s_few10.hid (.cons s_uFirsts.hid (.cons s_uOwner.hid (.cons s_uFixed.hid (.cons s_r10DocFirsts.hid (.cons s_r10DocOwner.hid (.cons s_r10DocFixed.hid (.cons s_ints10.hid (.cons s_vecs10.hid (.nil)))))))))))) (fun x => T_UnitFirsts x.1 x.2.1) r_UnitFirsts fun x ok hp => p_UnitFirsts x.1 x.2.1 ok.1 ok.2.1
end Go.Fx
