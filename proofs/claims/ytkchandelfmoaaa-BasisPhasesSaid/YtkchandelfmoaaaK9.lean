/-
  Contracts: f2Mod, f2Bring, f2Right, f2Form, f4Form, f7bring, f7minus, f7image, f7least, f7DocBehind, f7DocBack, f7DocPoint, f7told, f7DocOp, f7DocIndex, f7Metric, f7Turned, f7DocMetric.
-/
import Derived.Test.YtkchandelfmoaaaK8
namespace Go.Fx
open Go Go.Proofs
set_option maxRecDepth 100000
set_option linter.unusedVariables false
noncomputable def C_f2Mod : Contract := { args := [.int .i64, .int .i64], res := [.int .i64], pre := fun x => inM x.2.1, F := fun x => ((emo x.1 x.2.1 : Int), ()) }
def T_f2Mod (n : Int) (m : Int) : Prop :=
  ((m ≠ 0) ∧
(((decide ((Int.tmod n m) < 0)) = true →
 ((w64 (((Int.tmod n m) + m))), ()) = (emo n m, ())) ∧
((decide ((Int.tmod n m) < 0)) = false →
((Int.tmod n m), ()) = (emo n m, ()))))
theorem r_f2Mod (x : HL C_f2Mod.args) : runs (env [] []) 400 104 C_f2Mod x = T_f2Mod x.1 x.2.1 := by kernel_rfl
theorem p_f2Mod (n : Int) (m : Int) (h0 : (Sh.int .i64).okA n) (h1 : (Sh.int .i64).okA m) (hp : inM m) : T_f2Mod n m := by
  obtain ⟨e1, e2, e3⟩ := fmod_eq (n := n) hp
  obtain ⟨m1, m2⟩ := hp
  have hb : (n.tmod m).natAbs < m.natAbs := by rw [Int.natAbs_tmod]; exact Nat.mod_lt _ (by omega)
  unfold T_f2Mod emo
  rw [← e2, e1]
  generalize Int.tmod n m = t at hb
  rw [Int.tmod_eq_emod_of_nonneg (show 0 ≤ t + m by omega), Int.add_emod_right]
  refine ⟨e3, fun h => ?_, fun h => ?_⟩
  · have h := of_decide_eq_true h
    rw [← Int.add_emod_right, Int.emod_eq_of_lt (by omega) (by omega)]
  · have h := of_decide_eq_false h
    rw [Int.emod_eq_of_lt (by omega) (by omega)]
theorem s_f2Mod : Sound Try.prog 104 C_f2Mod :=
  sound_of_eq (env_ok (.nil)) (fun x => T_f2Mod x.1 x.2.1) r_f2Mod fun x ok hp => p_f2Mod x.1 x.2.1 ok.1 ok.2.1 hp
noncomputable def C_f2Bring : Contract := { args := [.agg .vec, .int .i64], res := [.agg .vec], pre := fun x => inM x.2.1, F := fun x => ((modV x.2.1 x.1 : V3), ()) }
def T_f2Bring (v : V3) (m : Int) : Prop :=
  (inM m ∧
(inM m ∧
(inM m ∧
((V3.mk (emo v.x m) (emo v.y m) (emo v.z m)), ()) = (modV m v, ()))))
theorem r_f2Bring (x : HL C_f2Bring.args) : runs (env [(104, C_f2Mod)] []) 400 88 C_f2Bring x = T_f2Bring x.1 x.2.1 := by kernel_rfl
theorem p_f2Bring (v : V3) (m : Int) (h0 : (Sh.agg .vec).okA v) (h1 : (Sh.int .i64).okA m) (hp : inM m) : T_f2Bring v m := by
  exact ⟨hp, hp, hp, rfl⟩
theorem s_f2Bring : Sound Try.prog 88 C_f2Bring :=
  sound_of_eq (env_ok (.cons s_f2Mod (.nil))) (fun x => T_f2Bring x.1 x.2.1) r_f2Bring fun x ok hp => p_f2Bring x.1 x.2.1 ok.1 ok.2.1 hp
noncomputable def C_f2Right : Contract := { args := [.int .i64], res := [.bool], pre := fun _ => True, F := fun x => ((rgtM x.1 : Bool), ()) }
def T_f2Right (m : Int) : Prop :=
  (((decide (m = 24)) = true →
 (true, ()) = (rgtM m, ())) ∧
((decide (m = 24)) = false →
(((decide (m = 48)) = true →
 (true, ()) = (rgtM m, ())) ∧
((decide (m = 48)) = false →
(((decide (m = 96)) = true →
 (true, ()) = (rgtM m, ())) ∧
((decide (m = 96)) = false →
((decide (m = 192)), ()) = (rgtM m, ())))))))
theorem r_f2Right (x : HL C_f2Right.args) : runs (env [] []) 400 89 C_f2Right x = T_f2Right x.1 := by kernel_rfl
theorem p_f2Right (m : Int) (h0 : (Sh.int .i64).okA m) : T_f2Right m := by
  by_cases h1 : m = 24 <;> by_cases h2 : m = 48 <;> by_cases h3 : m = 96 <;> by_cases h4 : m = 192 <;> simp [T_f2Right, rgtM, h1, h2, h3, h4]
theorem s_f2Right : Sound Try.prog 89 C_f2Right :=
  sound_of_eq (env_ok (.nil)) (fun x => T_f2Right x.1) r_f2Right fun x ok hp => p_f2Right x.1 ok.1
noncomputable def C_f2Form : Contract := { args := [.agg .pt], res := [.bool], pre := fun _ => True, F := fun x => ((frmP x.1 : Bool), ()) }
def T_f2Form (p : Pt) : Prop :=
  (True ∧
((rgtM p.M = true →
 (inM p.M ∧
 (((decide (p.X.x = (modV p.M p.X).x)) && ((decide (p.X.y = (modV p.M p.X).y)) && ((decide (p.X.z = (modV p.M p.X).z)) && true))), ()) = (frmP p, ()))) ∧
(rgtM p.M = false →
(false, ()) = (frmP p, ()))))
theorem r_f2Form (x : HL C_f2Form.args) : runs (env [(89, C_f2Right), (88, C_f2Bring)] []) 400 59 C_f2Form x = T_f2Form x.1 := by kernel_rfl
theorem p_f2Form (p : Pt) (h0 : (Sh.agg .pt).okA p) : T_f2Form p := by
  cases hr : rgtM p.M
  · simp [T_f2Form, hr, frmP]
  · have hm := rgt_in hr
    refine ⟨trivial, fun _ => ⟨hm, ?_⟩, fun h => by rw [hr] at h; cases h⟩
    have key : ∀ x : Int, decide (x = x % p.M) = inX p.M x := fun x => by
      obtain ⟨a, b⟩ := hm
      unfold inX
      rw [Bool.eq_iff_iff]
      simp only [Bool.and_eq_true, decide_eq_true_eq]
      constructor
      · intro h; rw [h]; exact ⟨Int.emod_nonneg _ (by omega), Int.emod_lt_of_pos _ (by omega)⟩
      · rintro ⟨h1, h2⟩; exact (Int.emod_eq_of_lt h1 h2).symm
    show ((decide (p.X.x = p.X.x % p.M) && (decide (p.X.y = p.X.y % p.M) && (decide (p.X.z = p.X.z % p.M) && true))), ()) = (frmP p, ())
    unfold frmP
    rw [hr, key, key, key, Bool.and_true, Bool.true_and]
theorem s_f2Form : Sound Try.prog 59 C_f2Form :=
  sound_of_eq (env_ok (.cons s_f2Right (.cons s_f2Bring (.nil)))) (fun x => T_f2Form x.1) r_f2Form fun x ok hp => p_f2Form x.1 ok.1
noncomputable def C_f4Form : Contract := { args := [.agg .op], res := [.int .i64], pre := fun _ => True, F := fun x => ((errO x.1 : Int), ()) }
def T_f4Form (o : Op3) : Prop :=
  (((decide (o.T.x < 0)) = true →
 (3, ()) = (errO o, ())) ∧
((decide (o.T.x < 0)) = false →
(((decide (23 < o.T.x)) = true →
 (3, ()) = (errO o, ())) ∧
((decide (23 < o.T.x)) = false →
(((decide (o.T.y < 0)) = true →
 (3, ()) = (errO o, ())) ∧
((decide (o.T.y < 0)) = false →
(((decide (23 < o.T.y)) = true →
 (3, ()) = (errO o, ())) ∧
((decide (23 < o.T.y)) = false →
(((decide (o.T.z < 0)) = true →
 (3, ()) = (errO o, ())) ∧
((decide (o.T.z < 0)) = false →
(((decide (23 < o.T.z)) = true →
 (3, ()) = (errO o, ())) ∧
((decide (23 < o.T.z)) = false →
(True ∧
∀ z7 : Int,
(z7 = uniE o.R →
(z7, ()) = (errO o, ())))))))))))))))
theorem r_f4Form (x : HL C_f4Form.args) : runs (env [(51, C_rForm.hid)] []) 400 63 C_f4Form x = T_f4Form x.1 := by kernel_rfl
theorem p_f4Form (o : Op3) (h0 : (Sh.agg .op).okA o) : T_f4Form o := by
  simp only [T_f4Form, decide_eq_true_eq, decide_eq_false_iff_not]
  repeat' (first | apply And.intro | intro _ | exact trivial)
  all_goals first | (unfold errO; rw [if_neg (by rw [inT_iff]; omega)]) | (unfold errO; rw [if_pos (by rw [inT_iff]; omega)]; simp_all)
theorem s_f4Form : Sound Try.prog 63 C_f4Form :=
  sound_of_eq (env_ok (.cons s_rForm.hid (.nil))) (fun x => T_f4Form x.1) r_f4Form fun x ok hp => p_f4Form x.1 ok.1
noncomputable def C_f7bring : Contract := { args := [.agg .vec, .int .i64], res := [.agg .vec], pre := fun x => inM x.2.1, F := fun x => ((modV x.2.1 x.1 : V3), ()) }
def T_f7bring (v : V3) (m : Int) : Prop :=
  (inM m ∧
(modV m v, ()) = (modV m v, ()))
theorem r_f7bring (x : HL C_f7bring.args) : runs (env [(88, C_f2Bring)] []) 400 56 C_f7bring x = T_f7bring x.1 x.2.1 := by kernel_rfl
theorem p_f7bring (v : V3) (m : Int) (h0 : (Sh.agg .vec).okA v) (h1 : (Sh.int .i64).okA m) (hp : inM m) : T_f7bring v m := by
  exact ⟨hp, rfl⟩
theorem s_f7bring : Sound Try.prog 56 C_f7bring :=
  sound_of_eq (env_ok (.cons s_f2Bring (.nil))) (fun x => T_f7bring x.1 x.2.1) r_f7bring fun x ok hp => p_f7bring x.1 x.2.1 ok.1 ok.2.1 hp
noncomputable def C_f7minus : Contract := { args := [.agg .vec], res := [.agg .vec], pre := fun _ => True, F := fun x => ((wV (negV x.1) : V3), ()) }
def T_f7minus (v : V3) : Prop :=
  ((V3.mk ((w64 (0 - v.x))) ((w64 (0 - v.y))) ((w64 (0 - v.z)))), ()) = (wV (negV v), ())
theorem r_f7minus (x : HL C_f7minus.args) : runs (env [] []) 400 57 C_f7minus x = T_f7minus x.1 := by kernel_rfl
theorem p_f7minus (v : V3) (h0 : (Sh.agg .vec).okA v) : T_f7minus v := by
  simp [T_f7minus, wV, negV]
theorem s_f7minus : Sound Try.prog 57 C_f7minus :=
  sound_of_eq (env_ok (.nil)) (fun x => T_f7minus x.1) r_f7minus fun x ok hp => p_f7minus x.1 ok.1
noncomputable def C_f7image : Contract := { args := [.agg .mat, .agg .vec, .agg .vec, .int .i64], res := [.agg .vec], pre := fun x => inM x.2.2.2.1, F := fun x => ((imgW x.1 x.2.1 x.2.2.1 x.2.2.2.1 : V3), ()) }
def T_f7image (m : M3) (v : V3) (w : V3) (n : Int) : Prop :=
  (inM n ∧
(True ∧
(inM n ∧
∀ z4 : V3,
(z4 = modV n w →
(inM n ∧
∀ z6 : V3,
(z6 = modV n ((V3.mk ((w64 (((wV (appZ m (modV n v))).x + z4.x)))) ((w64 (((wV (appZ m (modV n v))).y + z4.y)))) ((w64 (((wV (appZ m (modV n v))).z + z4.z)))))) →
(z6, ()) = (imgW m v w n, ())))))))
theorem r_f7image (x : HL C_f7image.args) : runs (env [(56, C_f7bring.hid), (58, C_rApply.hid)] []) 400 53 C_f7image x = T_f7image x.1 x.2.1 x.2.2.1 x.2.2.2.1 := by kernel_rfl
theorem p_f7image (m : M3) (v : V3) (w : V3) (n : Int) (h0 : (Sh.agg .mat).okA m) (h1 : (Sh.agg .vec).okA v) (h2 : (Sh.agg .vec).okA w) (h3 : (Sh.int .i64).okA n) (hp : inM n) : T_f7image m v w n := by
  exact ⟨hp, trivial, hp, fun z hz => ⟨hp, fun y hy => by subst hz; subst hy; rfl⟩⟩
theorem s_f7image : Sound Try.prog 53 C_f7image :=
  sound_of_eq (env_ok (.cons s_f7bring.hid (.cons s_rApply.hid (.nil)))) (fun x => T_f7image x.1 x.2.1 x.2.2.1 x.2.2.2.1) r_f7image fun x ok hp => p_f7image x.1 x.2.1 x.2.2.1 x.2.2.2.1 ok.1 ok.2.1 ok.2.2.1 ok.2.2.2.1 hp
noncomputable def C_f7least : Contract := { args := [.list .int], res := [.int .i64], pre := fun _ => True, F := fun x => ((lstL x.1 : Int), ()) }
def T_f7least (l : List Int) : Prop :=
  (lsI l 0 0 ∧
∀ z1 : Int,
((decide ((-9223372036854775808) ≤ z1)) = true →
((decide (z1 ≤ 9223372036854775807)) = true →
∀ z4 : Int,
((decide ((-9223372036854775808) ≤ z4)) = true →
((decide (z4 ≤ 9223372036854775807)) = true →
(lsI l z1 z4 →
(((decide (z1 < (l.length : Int))) = true →
 (inB l z1 ∧
 (((!(decide ((l.getD (z1).toNat 0) = 0))) = true →
  (((decide (z4 = 0)) = true →
   (lsI l ((w64 (z1 + 1))) ((l.getD (z1).toNat 0)) ∧
   ((decide (0 ≤ lnMu l ((w64 (z1 + 1))))) = true ∧
   (decide (lnMu l ((w64 (z1 + 1))) < lnMu l z1)) = true))) ∧
  ((decide (z4 = 0)) = false →
  (((decide ((l.getD (z1).toNat 0) < z4)) = true →
   (lsI l ((w64 (z1 + 1))) ((l.getD (z1).toNat 0)) ∧
   ((decide (0 ≤ lnMu l ((w64 (z1 + 1))))) = true ∧
   (decide (lnMu l ((w64 (z1 + 1))) < lnMu l z1)) = true))) ∧
  ((decide ((l.getD (z1).toNat 0) < z4)) = false →
  (lsI l ((w64 (z1 + 1))) z4 ∧
  ((decide (0 ≤ lnMu l ((w64 (z1 + 1))))) = true ∧
  (decide (lnMu l ((w64 (z1 + 1))) < lnMu l z1)) = true))))))) ∧
 ((!(decide ((l.getD (z1).toNat 0) = 0))) = false →
 (lsI l ((w64 (z1 + 1))) z4 ∧
 ((decide (0 ≤ lnMu l ((w64 (z1 + 1))))) = true ∧
 (decide (lnMu l ((w64 (z1 + 1))) < lnMu l z1)) = true)))))) ∧
((decide (z1 < (l.length : Int))) = false →
(z4, ()) = (lstL l, ())))))))))
theorem r_f7least (x : HL C_f7least.args) : runs (env [] [(50, 3, { fix := [(.tmp 6, .list .int)], vars := [(.tmp 8, .int .i64), (.tmp 3, .int .i64)], inv := fun y v => lsI y.1 v.1 v.2.1, mu := fun y v => lnMu y.1 v.1 })]) 400 50 C_f7least x = T_f7least x.1 := by kernel_rfl
theorem p_f7least (l : List Int) (h0 : (Sh.list .int).okA l) : T_f7least l := by
  have hb : l.length * 8 ≤ reach := h0.2
  refine ⟨⟨by omega, by omega, rfl⟩, fun i _ _ w _ _ hI => ⟨fun hi => ?_, fun hi => ls_fin hI (of_decide_eq_false hi)⟩⟩
  have hi := of_decide_eq_true hi
  have i0 := hI.1
  have nx := ls_step hb hI hi
  generalize l.getD i.toNat 0 = x at nx
  refine ⟨⟨i0, hi⟩, fun h1 => ?_, fun h1 => ?_⟩
  · have hx : x ≠ 0 := fun e => by rw [decide_eq_true e] at h1; cases h1
    refine ⟨fun h2 => ?_, fun h2 => ⟨fun h3 => ?_, fun h3 => ?_⟩⟩
    · rw [show lstS w x = x from if_pos ⟨hx, .inl (of_decide_eq_true h2)⟩] at nx; exact nx
    · rw [show lstS w x = x from if_pos ⟨hx, .inr (of_decide_eq_true h3)⟩] at nx; exact nx
    · rw [show lstS w x = w from if_neg fun h => h.2.elim (of_decide_eq_false h2) (of_decide_eq_false h3)] at nx; exact nx
  · have hx : x = 0 := by
      by_cases e : x = 0
      · exact e
      · rw [decide_eq_false e] at h1; cases h1
    rw [show lstS w x = w from if_neg fun h => h.1 hx] at nx; exact nx
theorem s_f7least : Sound Try.prog 50 C_f7least :=
  sound_of_eq (env_ok (.nil)) (fun x => T_f7least x.1) r_f7least fun x ok hp => p_f7least x.1 ok.1
noncomputable def C_f7DocBehind : Contract := { args := [.agg .chg, .agg .chg], res := [.agg .chg, .int .i64], pre := fun _ => True, F := fun x => ((selC (behE x.1 x.2.1) (behC x.1 x.2.1) : Chg), (behE x.1 x.2.1 : Int), ()) }
def T_f7DocBehind (a : Chg) (b : Chg) : Prop :=
  (True ∧
(True ∧
(True ∧
(((!(decide (lstL ([uniE a.P, uniE b.P]) = 0))) = true →
 ((Chg.mk (M3.mk 0 0 0 0 0 0 0 0 0) (V3.mk 0 0 0)), (lstL ([uniE a.P, uniE b.P]), ())) = (selC (behE a b) (behC a b), (behE a b, ()))) ∧
((!(decide (lstL ([uniE a.P, uniE b.P]) = 0))) = false →
(True ∧
(inM 24 ∧
(True ∧
∀ z3 : Int,
(z3 = errM (wM (mulZ a.P b.P)) →
(((!(decide (z3 = 0))) = true →
 ((Chg.mk (M3.mk 0 0 0 0 0 0 0 0 0) (V3.mk 0 0 0)), (z3, ())) = (selC (behE a b) (behC a b), (behE a b, ()))) ∧
((!(decide (z3 = 0))) = false →
((Chg.mk (wM (mulZ a.P b.P)) (imgW a.P b.O a.O 24)), (0, ())) = (selC (behE a b) (behC a b), (behE a b, ())))))))))))))
theorem r_f7DocBehind (x : HL C_f7DocBehind.args) : runs (env [(50, C_f7least.hid), (51, C_rForm), (52, C_rMul.hid), (54, C_rMat.hid), (53, C_f7image.hid)] []) 400 17 C_f7DocBehind x = T_f7DocBehind x.1 x.2.1 := by kernel_rfl
theorem p_f7DocBehind (a : Chg) (b : Chg) (h0 : (Sh.agg .chg).okA a) (h1 : (Sh.agg .chg).okA b) : T_f7DocBehind a b := by
  unfold T_f7DocBehind
  rw [lst_two]
  by_cases h0 : lst2 (uniE a.P) (uniE b.P) = 0
  · obtain ⟨h1, h2⟩ := lst2_zero h0
    have hi : imgW a.P b.O a.O 24 = addT (shiT a.P b.O) a.O := by
      rw [img_id (uniE_ok h1).1 (by decide) (by decide) (by decide)]
      show eqV 24 _ _
      exact (eqV_add (eqV_mod 24 _) (eqV.refl _ _)).symm
    by_cases h3 : errM (wM (mulZ a.P b.P)) = 0 <;> simp [h0, h3, hi, k24, behE, behC, selC, zerC]
  · simp [h0, behE, behC, selC, zerC]
theorem s_f7DocBehind : Sound Try.prog 17 C_f7DocBehind :=
  sound_of_eq (env_ok (.cons s_f7least.hid (.cons s_rForm (.cons s_rMul.hid (.cons s_rMat.hid (.cons s_f7image.hid (.nil))))))) (fun x => T_f7DocBehind x.1 x.2.1) r_f7DocBehind fun x ok hp => p_f7DocBehind x.1 x.2.1 ok.1 ok.2.1
noncomputable def C_f7DocBack : Contract := { args := [.agg .chg], res := [.agg .chg, .int .i64], pre := fun _ => True, F := fun x => ((selC (bakE x.1) (bakC x.1) : Chg), (bakE x.1 : Int), ()) }
def T_f7DocBack (c : Chg) : Prop :=
  (True ∧
∀ z1 : M3,
(z1 = selM (uniE c.P) (wM (scaZ (detZ c.P) (adjZ c.P))) →
∀ z3 : Int,
(z3 = uniE c.P →
(((!(decide (z3 = 0))) = true →
 ((Chg.mk (M3.mk 0 0 0 0 0 0 0 0 0) (V3.mk 0 0 0)), (z3, ())) = (selC (bakE c) (bakC c), (bakE c, ()))) ∧
((!(decide (z3 = 0))) = false →
(True ∧
∀ z6 : Int,
(z6 = errM z1 →
(((!(decide (z6 = 0))) = true →
 ((Chg.mk (M3.mk 0 0 0 0 0 0 0 0 0) (V3.mk 0 0 0)), (z6, ())) = (selC (bakE c) (bakC c), (bakE c, ()))) ∧
((!(decide (z6 = 0))) = false →
(inM 24 ∧
(True ∧
(True ∧
(inM 24 ∧
((Chg.mk z1 (modV 24 (wV (negV (wV (appZ z1 (modV 24 c.O))))))), (0, ())) = (selC (bakE c) (bakC c), (bakE c, ())))))))))))))))
theorem r_f7DocBack (x : HL C_f7DocBack.args) : runs (env [(42, C_DocInverse.hid), (54, C_rMat.hid), (56, C_f7bring), (57, C_f7minus), (58, C_rApply)] []) 400 19 C_f7DocBack x = T_f7DocBack x.1 := by kernel_rfl
theorem p_f7DocBack (c : Chg) (h0 : (Sh.agg .chg).okA c) : T_f7DocBack c := by
  by_cases h1 : uniE c.P = 0
  · obtain ⟨i1, i2⟩ := invW_id h1
    have i3 : wM (scaZ (detZ c.P) (adjZ c.P)) = invZ c.P := i1
    have hb := bak_T i2 c.O
    by_cases h3 : errM (invZ c.P) = 0 <;> simp [T_f7DocBack, h1, h3, k24, bakE, bakC, selC, zerC, selM, i1, i3, hb]
  · simp [T_f7DocBack, h1, bakE, bakC, selC, zerC]
theorem s_f7DocBack : Sound Try.prog 19 C_f7DocBack :=
  sound_of_eq (env_ok (.cons s_DocInverse.hid (.cons s_rMat.hid (.cons s_f7bring (.cons s_f7minus (.cons s_rApply (.nil))))))) (fun x => T_f7DocBack x.1) r_f7DocBack fun x ok hp => p_f7DocBack x.1 ok.1
noncomputable def C_f7DocPoint : Contract := { args := [.agg .chg, .agg .pt], res := [.agg .pt, .int .i64], pre := fun _ => True, F := fun x => ((pntP x.1 x.2.1 : Pt), (pntE x.1 x.2.1 : Int), ()) }
def T_f7DocPoint (c : Chg) (p : Pt) : Prop :=
  (True ∧
∀ z2 : Int,
(z2 = uniE c.P →
(True ∧
∀ z4 : Bool,
(z4 = frmP p →
(((!z4) = true →
 ((Pt.mk 0 (V3.mk 0 0 0)), (3, ())) = (pntP c p, (pntE c p, ()))) ∧
((!z4) = false →
(((!(decide (z2 = 0))) = true →
 ((Pt.mk 0 (V3.mk 0 0 0)), (z2, ())) = (pntP c p, (pntE c p, ()))) ∧
((!(decide (z2 = 0))) = false →
(inM 24 ∧
∀ z8 : V3,
(z8 = modV 24 c.O →
(inM p.M ∧
((Pt.mk p.M (imgW c.P p.X ((V3.mk ((w64 ((z8.x * (Int.tdiv p.M 24))))) ((w64 ((z8.y * (Int.tdiv p.M 24))))) ((w64 ((z8.z * (Int.tdiv p.M 24))))))) p.M)), (0, ())) = (pntP c p, (pntE c p, ())))))))))))))
theorem r_f7DocPoint (x : HL C_f7DocPoint.args) : runs (env [(51, C_rForm.hid), (59, C_f2Form.hid), (56, C_f7bring.hid), (53, C_f7image.hid)] []) 400 21 C_f7DocPoint x = T_f7DocPoint x.1 x.2.1 := by kernel_rfl
theorem p_f7DocPoint (c : Chg) (p : Pt) (h0 : (Sh.agg .chg).okA c) (h1 : (Sh.agg .pt).okA p) : T_f7DocPoint c p := by
  cases hf : frmP p
  · simp [T_f7DocPoint, hf, pntP, pntE, zerP]
  · by_cases hu : uniE c.P = 0
    · have e1 := doc_pnt hu hf
      have e2 := rgt_in (frmP_rgt hf)
      simp [T_f7DocPoint, hf, hu, e1, e2, k24, pntP, pntE]; rfl
    · simp [T_f7DocPoint, hf, hu, pntP, pntE, zerP]
theorem s_f7DocPoint : Sound Try.prog 21 C_f7DocPoint :=
  sound_of_eq (env_ok (.cons s_rForm.hid (.cons s_f2Form.hid (.cons s_f7bring.hid (.cons s_f7image.hid (.nil)))))) (fun x => T_f7DocPoint x.1 x.2.1) r_f7DocPoint fun x ok hp => p_f7DocPoint x.1 x.2.1 ok.1 ok.2.1
noncomputable def C_f7told : Contract := { args := [.agg .chg, .agg .op], res := [.agg .op], pre := fun x => tolP x.1 x.2.1, F := fun x => ((tolW x.1 (invW x.1.P) x.2.1 : Op3), ()) }
def T_f7told (c : Chg) (o : Op3) : Prop :=
  (True ∧
(True ∧
(True ∧
(inM 24 ∧
∀ z2 : V3,
(z2 = imgW c.P o.T c.O 24 →
(inM 24 ∧
(True ∧
(inM 24 ∧
((Op3.mk (wM (mulZ (wM (mulZ c.P o.R)) (wM (scaZ (detZ c.P) (adjZ c.P))))) (modV 24 ((V3.mk ((w64 ((z2.x - (Int.tmod ((wV (appZ (wM (mulZ (wM (mulZ c.P o.R)) (wM (scaZ (detZ c.P) (adjZ c.P))))) (modV 24 c.O))).x) 24))))) ((w64 ((z2.y - (Int.tmod ((wV (appZ (wM (mulZ (wM (mulZ c.P o.R)) (wM (scaZ (detZ c.P) (adjZ c.P))))) (modV 24 c.O))).y) 24))))) ((w64 ((z2.z - (Int.tmod ((wV (appZ (wM (mulZ (wM (mulZ c.P o.R)) (wM (scaZ (detZ c.P) (adjZ c.P))))) (modV 24 c.O))).z) 24))))))))), ()) = (tolW c (invW c.P) o, ())))))))))
theorem r_f7told (x : HL C_f7told.args) : runs (env [(52, C_rMul), (80, C_rInverse), (53, C_f7image.hid), (58, C_rApply), (56, C_f7bring)] []) 400 64 C_f7told x = T_f7told x.1 x.2.1 := by kernel_rfl
theorem p_f7told (c : Chg) (o : Op3) (h0 : (Sh.agg .chg).okA c) (h1 : (Sh.agg .op).okA o) (hp : tolP c o) : T_f7told c o := by
  have e := tol_T hp rfl
  refine ⟨trivial, trivial, trivial, k24, fun z hz => ⟨k24, trivial, k24, ?_⟩⟩
  subst hz
  unfold invW at e
  rw [e]; rfl
theorem s_f7told : Sound Try.prog 64 C_f7told :=
  sound_of_eq (env_ok (.cons s_rMul (.cons s_rInverse (.cons s_f7image.hid (.cons s_rApply (.cons s_f7bring (.nil))))))) (fun x => T_f7told x.1 x.2.1) r_f7told fun x ok hp => p_f7told x.1 x.2.1 ok.1 ok.2.1 hp
noncomputable def C_f7DocOp : Contract := { args := [.agg .chg, .agg .op], res := [.agg .op, .int .i64], pre := fun _ => True, F := fun x => ((bopO x.1 x.2.1 : Op3), (bopE x.1 x.2.1 : Int), ()) }
def T_f7DocOp (c : Chg) (o : Op3) : Prop :=
  (True ∧
(True ∧
(True ∧
(((!(decide (lstL ([uniE c.P, errO o]) = 0))) = true →
 ((Op3.mk (M3.mk 0 0 0 0 0 0 0 0 0) (V3.mk 0 0 0)), (lstL ([uniE c.P, errO o]), ())) = (bopO c o, (bopE c o, ()))) ∧
((!(decide (lstL ([uniE c.P, errO o]) = 0))) = false →
(tolP c o ∧
∀ z3 : Op3,
(z3 = tolW c (invW c.P) o →
(True ∧
∀ z5 : Int,
(z5 = errM z3.R →
(((!(decide (z5 = 0))) = true →
 ((Op3.mk (M3.mk 0 0 0 0 0 0 0 0 0) (V3.mk 0 0 0)), (z5, ())) = (bopO c o, (bopE c o, ()))) ∧
((!(decide (z5 = 0))) = false →
(z3, (0, ())) = (bopO c o, (bopE c o, ())))))))))))))
theorem r_f7DocOp (x : HL C_f7DocOp.args) : runs (env [(50, C_f7least.hid), (51, C_rForm), (63, C_f4Form), (64, C_f7told.hid), (54, C_rMat.hid)] []) 400 23 C_f7DocOp x = T_f7DocOp x.1 x.2.1 := by kernel_rfl
theorem p_f7DocOp (c : Chg) (o : Op3) (h0 : (Sh.agg .chg).okA c) (h1 : (Sh.agg .op).okA o) : T_f7DocOp c o := by
  unfold T_f7DocOp
  rw [lst_two]
  by_cases h0 : lst2 (uniE c.P) (errO o) = 0
  · obtain ⟨h1, h2⟩ := lst2_zero h0
    by_cases h3 : errM (tolW c (invW c.P) o).R = 0 <;> simp [h1, h2, show lst2 0 0 = 0 from rfl, h3, tolP, bopE, bopO, selO, zerO]
  · simp [h0, bopE, bopO, selO, zerO]
theorem s_f7DocOp : Sound Try.prog 23 C_f7DocOp :=
  sound_of_eq (env_ok (.cons s_f7least.hid (.cons s_rForm (.cons s_f4Form (.cons s_f7told.hid (.cons s_rMat.hid (.nil))))))) (fun x => T_f7DocOp x.1 x.2.1) r_f7DocOp fun x ok hp => p_f7DocOp x.1 x.2.1 ok.1 ok.2.1
noncomputable def C_f7DocIndex : Contract := { args := [.agg .chg, .agg .vec], res := [.agg .vec, .int .i64], pre := fun _ => True, F := fun x => ((idxV x.1 x.2.1 : V3), (idxE x.1 x.2.1 : Int), ()) }
def T_f7DocIndex (c : Chg) (h : V3) : Prop :=
  (((decide (h.x < (-512))) = true →
 ((V3.mk 0 0 0), (1, ())) = (idxV c h, (idxE c h, ()))) ∧
((decide (h.x < (-512))) = false →
(((decide (512 < h.x)) = true →
 ((V3.mk 0 0 0), (1, ())) = (idxV c h, (idxE c h, ()))) ∧
((decide (512 < h.x)) = false →
(((decide (h.y < (-512))) = true →
 ((V3.mk 0 0 0), (1, ())) = (idxV c h, (idxE c h, ()))) ∧
((decide (h.y < (-512))) = false →
(((decide (512 < h.y)) = true →
 ((V3.mk 0 0 0), (1, ())) = (idxV c h, (idxE c h, ()))) ∧
((decide (512 < h.y)) = false →
(((decide (h.z < (-512))) = true →
 ((V3.mk 0 0 0), (1, ())) = (idxV c h, (idxE c h, ()))) ∧
((decide (h.z < (-512))) = false →
(((decide (512 < h.z)) = true →
 ((V3.mk 0 0 0), (1, ())) = (idxV c h, (idxE c h, ()))) ∧
((decide (512 < h.z)) = false →
(True ∧
∀ z8 : M3,
(z8 = selM (uniE c.P) (wM (scaZ (detZ c.P) (adjZ c.P))) →
∀ z10 : Int,
(z10 = uniE c.P →
(((!(decide (z10 = 0))) = true →
 ((V3.mk 0 0 0), (z10, ())) = (idxV c h, (idxE c h, ()))) ∧
((!(decide (z10 = 0))) = false →
(True ∧
∀ z13 : V3,
(z13 = wV (appZ (traZ z8) h) →
(z13, (0, ())) = (idxV c h, (idxE c h, ())))))))))))))))))))))
theorem r_f7DocIndex (x : HL C_f7DocIndex.args) : runs (env [(42, C_DocInverse.hid), (65, C_rLeft.hid)] []) 400 24 C_f7DocIndex x = T_f7DocIndex x.1 x.2.1 := by kernel_rfl
theorem p_f7DocIndex (c : Chg) (h : V3) (h0 : (Sh.agg .chg).okA c) (h1 : (Sh.agg .vec).okA h) : T_f7DocIndex c h := by
  unfold T_f7DocIndex
  by_cases hh : okH h = true
  · have hk := hh
    simp only [okH, inE, Bool.and_eq_true, decide_eq_true_eq] at hk
    have e1 : ¬ h.x < -512 := by omega
    have e2 : ¬ 512 < h.x := by omega
    have e3 : ¬ h.y < -512 := by omega
    have e4 : ¬ 512 < h.y := by omega
    have e5 : ¬ h.z < -512 := by omega
    have e6 : ¬ 512 < h.z := by omega
    by_cases hu : uniE c.P = 0
    · simp [e1, e2, e3, e4, e5, e6, hu, hh, idxE, idxV, selM, invW, wV, appZ, traZ, w64_add_l, w64_add_r, w64_sub_l, w64_sub_r, w64_mul_l, w64_mul_r, w64_w64, Int.mul_comm]
    · simp [e1, e2, e3, e4, e5, e6, hu, hh, idxE, idxV]
  · have hx : (V3.mk 0 0 0, ((1 : Int), ())) = (idxV c h, (idxE c h, ())) := by simp [idxE, idxV, hh]
    have hk : ¬ (((-512 ≤ h.x ∧ h.x ≤ 512) ∧ (-512 ≤ h.y ∧ h.y ≤ 512)) ∧ (-512 ≤ h.z ∧ h.z ≤ 512)) := fun h' => hh (by simp only [okH, inE, Bool.and_eq_true, decide_eq_true_eq]; exact h')
    simp only [← hx, decide_eq_true_eq, decide_eq_false_iff_not, implies_true, true_and]
    intros; omega
theorem s_f7DocIndex : Sound Try.prog 24 C_f7DocIndex :=
  sound_of_eq (env_ok (.cons s_DocInverse.hid (.cons s_rLeft.hid (.nil)))) (fun x => T_f7DocIndex x.1 x.2.1) r_f7DocIndex fun x ok hp => p_f7DocIndex x.1 x.2.1 ok.1 ok.2.1
noncomputable def C_f7Metric : Contract := { args := [.agg .met], res := [.int .i64], pre := fun _ => True, F := fun x => ((mtE x.1 : Int), ()) }
def T_f7Metric (m : Met) : Prop :=
  (((decide (m.AA < 1)) = true →
 (1, ()) = (mtE m, ())) ∧
((decide (m.AA < 1)) = false →
(((decide (100000 < m.AA)) = true →
 (1, ()) = (mtE m, ())) ∧
((decide (100000 < m.AA)) = false →
(((decide (m.BB < 1)) = true →
 (1, ()) = (mtE m, ())) ∧
((decide (m.BB < 1)) = false →
(((decide (100000 < m.BB)) = true →
 (1, ()) = (mtE m, ())) ∧
((decide (100000 < m.BB)) = false →
(((decide (m.CC < 1)) = true →
 (1, ()) = (mtE m, ())) ∧
((decide (m.CC < 1)) = false →
(((decide (100000 < m.CC)) = true →
 (1, ()) = (mtE m, ())) ∧
((decide (100000 < m.CC)) = false →
(((decide (m.BC < (-100000))) = true →
 (1, ()) = (mtE m, ())) ∧
((decide (m.BC < (-100000))) = false →
(((decide (100000 < m.BC)) = true →
 (1, ()) = (mtE m, ())) ∧
((decide (100000 < m.BC)) = false →
(((decide (m.AC < (-100000))) = true →
 (1, ()) = (mtE m, ())) ∧
((decide (m.AC < (-100000))) = false →
(((decide (100000 < m.AC)) = true →
 (1, ()) = (mtE m, ())) ∧
((decide (100000 < m.AC)) = false →
(((decide (m.AB < (-100000))) = true →
 (1, ()) = (mtE m, ())) ∧
((decide (m.AB < (-100000))) = false →
(((decide (100000 < m.AB)) = true →
 (1, ()) = (mtE m, ())) ∧
((decide (100000 < m.AB)) = false →
(0, ()) = (mtE m, ())))))))))))))))))))))))))
theorem r_f7Metric (x : HL C_f7Metric.args) : runs (env [] []) 400 41 C_f7Metric x = T_f7Metric x.1 := by kernel_rfl
theorem p_f7Metric (m : Met) (h0 : (Sh.agg .met).okA m) : T_f7Metric m := by
  simp only [T_f7Metric, decide_eq_true_eq, decide_eq_false_iff_not]
  repeat' (first | apply And.intro | intro _ | exact trivial)
  all_goals simp only [mtE, metB, inE, Prod.mk.injEq, and_true, Bool.and_eq_true, decide_eq_true_eq]
  all_goals first | rw [if_neg (by omega)] | rw [if_pos (by omega)]
theorem s_f7Metric : Sound Try.prog 41 C_f7Metric :=
  sound_of_eq (env_ok (.nil)) (fun x => T_f7Metric x.1) r_f7Metric fun x ok hp => p_f7Metric x.1 ok.1
noncomputable def C_f7Turned : Contract := { args := [.agg .met, .agg .mat], res := [.agg .met], pre := fun _ => True, F := fun x => ((turM x.1 x.2.1 : Met), ()) }
def T_f7Turned (m : Met) (p : M3) : Prop :=
  (True ∧
(True ∧
(True ∧
((Met.mk ((wM (mulZ (traZ p) (wM (mulZ (M3.mk m.AA m.AB m.AC m.AB m.BB m.BC m.AC m.BC m.CC) p)))).xx) ((wM (mulZ (traZ p) (wM (mulZ (M3.mk m.AA m.AB m.AC m.AB m.BB m.BC m.AC m.BC m.CC) p)))).yy) ((wM (mulZ (traZ p) (wM (mulZ (M3.mk m.AA m.AB m.AC m.AB m.BB m.BC m.AC m.BC m.CC) p)))).zz) ((wM (mulZ (traZ p) (wM (mulZ (M3.mk m.AA m.AB m.AC m.AB m.BB m.BC m.AC m.BC m.CC) p)))).yz) ((wM (mulZ (traZ p) (wM (mulZ (M3.mk m.AA m.AB m.AC m.AB m.BB m.BC m.AC m.BC m.CC) p)))).xz) ((wM (mulZ (traZ p) (wM (mulZ (M3.mk m.AA m.AB m.AC m.AB m.BB m.BC m.AC m.BC m.CC) p)))).xy)), ()) = (turM m p, ()))))
theorem r_f7Turned (x : HL C_f7Turned.args) : runs (env [(52, C_rMul.hid), (81, C_rTranspose.hid)] []) 400 43 C_f7Turned x = T_f7Turned x.1 x.2.1 := by kernel_rfl
theorem p_f7Turned (m : Met) (p : M3) (h0 : (Sh.agg .met).okA m) (h1 : (Sh.agg .mat).okA p) : T_f7Turned m p := by
  refine ⟨trivial, trivial, trivial, ?_⟩
  show (metO (wM (mulZ (traZ p) (wM (mulZ (gramZ m) p)))), ()) = _
  rw [mul_wr, ← mulZ_assoc]; rfl
theorem s_f7Turned : Sound Try.prog 43 C_f7Turned :=
  sound_of_eq (env_ok (.cons s_rMul.hid (.cons s_rTranspose.hid (.nil)))) (fun x => T_f7Turned x.1 x.2.1) r_f7Turned fun x ok hp => p_f7Turned x.1 x.2.1 ok.1 ok.2.1
noncomputable def C_f7DocMetric : Contract := { args := [.agg .chg, .agg .met], res := [.agg .met, .int .i64], pre := fun _ => True, F := fun x => ((metM x.1 x.2.1 : Met), (metE x.1 x.2.1 : Int), ()) }
def T_f7DocMetric (c : Chg) (m : Met) : Prop :=
  (True ∧
∀ z2 : Int,
(z2 = mtE m →
(((!(decide (z2 = 0))) = true →
 ((Met.mk 0 0 0 0 0 0), (z2, ())) = (metM c m, (metE c m, ()))) ∧
((!(decide (z2 = 0))) = false →
(True ∧
∀ z5 : M3,
(z5 = selM (uniE c.P) (wM (scaZ (detZ c.P) (adjZ c.P))) →
∀ z7 : Int,
(z7 = uniE c.P →
(((!(decide (z7 = 0))) = true →
 ((Met.mk 0 0 0 0 0 0), (z7, ())) = (metM c m, (metE c m, ()))) ∧
((!(decide (z7 = 0))) = false →
(True ∧
∀ z10 : Met,
(z10 = turM m z5 →
(z10, (0, ())) = (metM c m, (metE c m, ())))))))))))))
theorem r_f7DocMetric (x : HL C_f7DocMetric.args) : runs (env [(41, C_f7Metric.hid), (42, C_DocInverse.hid), (43, C_f7Turned.hid)] []) 400 12 C_f7DocMetric x = T_f7DocMetric x.1 x.2.1 := by kernel_rfl
theorem p_f7DocMetric (c : Chg) (m : Met) (h0 : (Sh.agg .chg).okA c) (h1 : (Sh.agg .met).okA m) : T_f7DocMetric c m := by
  cases h1 : metB m <;> by_cases h2 : uniE c.P = 0 <;> simp [T_f7DocMetric, h1, h2, mtE, metE, metM, selM, invW]
theorem s_f7DocMetric : Sound Try.prog 12 C_f7DocMetric :=
  sound_of_eq (env_ok (.cons s_f7Metric.hid (.cons s_DocInverse.hid (.cons s_f7Turned.hid (.nil))))) (fun x => T_f7DocMetric x.1 x.2.1) r_f7DocMetric fun x ok hp => p_f7DocMetric x.1 x.2.1 ok.1 ok.2.1
end Go.Fx
