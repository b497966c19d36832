/-
  Contracts: Det, opmod, fmod, fAdd, cmpInt, opmatrix, opcheck, opOne, opshift, opmul, opmade, opMul, opCompare.
-/
import Derived.Test.YtcadkndjcneedaaGreatK1
namespace Go.Fx
open Go Go.Proofs
set_option maxRecDepth 100000
set_option linter.unusedVariables false
set_option linter.unusedSimpArgs false
set_option linter.unusedSectionVars false
noncomputable def C_Det : Contract := { args := [.agg .mat], res := [.int .i64, .int .i64], pre := fun _ => True, F := fun x => ((selI (errM x.1) (w64 (detZ x.1)) : Int), (errM x.1 : Int), ()) }
def T_Det (m : M3) : Prop :=
  (True ∧
(((!(decide (errM m = 0))) = true →
 (0, (errM m, ())) = (selI (errM m) (w64 (detZ m)), (errM m, ()))) ∧
((!(decide (errM m = 0))) = false →
(True ∧
(w64 (detZ m), (0, ())) = (selI (errM m) (w64 (detZ m)), (errM m, ()))))))
theorem r_Det (x : HL C_Det.args) : runs (env0 [(94, C_check), (123, C_det)] [] []) 400 112 C_Det x = T_Det x.1 := by kernel_rfl
theorem p_Det (m : M3) (h0 : (Sh.agg .mat).okA m) : T_Det m := by
  rcases errM_cases m with hm | hm <;> simp [T_Det, hm, selI, selM, trcZ, w64_add_l, w64_add_r, w64_sub_l, w64_sub_r, w64_mul_l, w64_mul_r, w64_w64]
theorem s_Det : Sound Tryz.prog 112 C_Det :=
  sound_of_eq (env0_ok (.cons s_check (.cons s_det (.nil)))) (fun x => T_Det x.1) r_Det fun x ok hp => p_Det x.1 ok.1
noncomputable def C_opmod : Contract := { args := [.int .i64], res := [.int .i64], pre := fun _ => True, F := fun x => ((r24 x.1 : Int), ()) }
def T_opmod (n : Int) : Prop :=
  ((((Int.tmod n 24) + 24) % 24), ()) = (r24 n, ())
theorem r_opmod (x : HL C_opmod.args) : runs (env0 [] [] []) 400 118 C_opmod x = T_opmod x.1 := by kernel_rfl
theorem p_opmod (n : Int) (h0 : (Sh.int .i64).okA n) : T_opmod n := by
  rfl
theorem s_opmod : Sound Tryz.prog 118 C_opmod :=
  sound_of_eq (env0_ok (.nil)) (fun x => T_opmod x.1) r_opmod fun x ok hp => p_opmod x.1 ok.1
noncomputable def C_fmod : Contract := { args := [.int .i64, .int .i64], res := [.int .i64], pre := fun x => inM x.2.1, F := fun x => ((emo x.1 x.2.1 : Int), ()) }
def T_fmod (n : Int) (m : Int) : Prop :=
  ((m ≠ 0) ∧
((m ≠ 0) ∧
((Int.tmod ((w64 (((Int.tmod n m) + m)))) m), ()) = (emo n m, ())))
theorem r_fmod (x : HL C_fmod.args) : runs (env0 [] [] []) 400 117 C_fmod x = T_fmod x.1 x.2.1 := by kernel_rfl
theorem p_fmod (n : Int) (m : Int) (h0 : (Sh.int .i64).okA n) (h1 : (Sh.int .i64).okA m) (hp : inM m) : T_fmod n m := by
  obtain ⟨e1, e2, e3⟩ := fmod_eq (n := n) hp
  exact ⟨e3, e3, by rw [e1, e2]; rfl⟩
theorem s_fmod : Sound Tryz.prog 117 C_fmod :=
  sound_of_eq (env0_ok (.nil)) (fun x => T_fmod x.1 x.2.1) r_fmod fun x ok hp => p_fmod x.1 x.2.1 ok.1 ok.2.1 hp
noncomputable def C_fAdd : Contract := { args := [.agg .vec, .agg .vec], res := [.agg .vec], pre := fun _ => True, F := fun x => ((addT x.1 x.2.1 : V3), ()) }
def T_fAdd (a : V3) (b : V3) : Prop :=
  (inM 24 ∧
(inM 24 ∧
(inM 24 ∧
((V3.mk (emo (((Int.tmod a.x 24) + (Int.tmod b.x 24))) 24) (emo (((Int.tmod a.y 24) + (Int.tmod b.y 24))) 24) (emo (((Int.tmod a.z 24) + (Int.tmod b.z 24))) 24)), ()) = (addT a b, ()))))
theorem r_fAdd (x : HL C_fAdd.args) : runs (env0 [(117, C_fmod)] [] []) 400 96 C_fAdd x = T_fAdd x.1 x.2.1 := by kernel_rfl
theorem p_fAdd (a : V3) (b : V3) (h0 : (Sh.agg .vec).okA a) (h1 : (Sh.agg .vec).okA b) : T_fAdd a b := by
  refine ⟨k24, k24, k24, ?_⟩
  simp only [emo, add24']; rfl
theorem s_fAdd : Sound Tryz.prog 96 C_fAdd :=
  sound_of_eq (env0_ok (.cons s_fmod (.nil))) (fun x => T_fAdd x.1 x.2.1) r_fAdd fun x ok hp => p_fAdd x.1 x.2.1 ok.1 ok.2.1
noncomputable def C_cmpInt : Contract := { args := [.int .i64, .int .i64], res := [.int .i64], pre := fun _ => True, F := fun x => ((cmpE x.1 x.2.1 0 : Int), ()) }
def T_cmpInt (a : Int) (b : Int) : Prop :=
  (((!(decide (a = a))) = true →
 (((!(decide (b = b))) = true →
  (0, ()) = (cmpE a b 0, ())) ∧
 ((!(decide (b = b))) = false →
 ((-1), ()) = (cmpE a b 0, ())))) ∧
((!(decide (a = a))) = false →
(((!(decide (b = b))) = true →
 (1, ()) = (cmpE a b 0, ())) ∧
((!(decide (b = b))) = false →
(((decide (a < b)) = true →
 ((-1), ()) = (cmpE a b 0, ())) ∧
((decide (a < b)) = false →
(((decide (b < a)) = true →
 (1, ()) = (cmpE a b 0, ())) ∧
((decide (b < a)) = false →
(0, ()) = (cmpE a b 0, ())))))))))
theorem r_cmpInt (x : HL C_cmpInt.args) : runs (env0 [] [] []) 400 72 C_cmpInt x = T_cmpInt x.1 x.2.1 := by kernel_rfl
theorem p_cmpInt (a : Int) (b : Int) (h0 : (Sh.int .i64).okA a) (h1 : (Sh.int .i64).okA b) : T_cmpInt a b := by
  by_cases h1 : a < b <;> by_cases h2 : b < a <;> simp [T_cmpInt, cmpE, h1, h2]
theorem s_cmpInt : Sound Tryz.prog 72 C_cmpInt :=
  sound_of_eq (env0_ok (.nil)) (fun x => T_cmpInt x.1 x.2.1) r_cmpInt fun x ok hp => p_cmpInt x.1 x.2.1 ok.1 ok.2.1
noncomputable def C_opmatrix : Contract := { args := [.agg .mat], res := [.int .i64], pre := fun _ => True, F := fun x => ((uniE x.1 : Int), ()) }
def T_opmatrix (m : M3) : Prop :=
  (True ∧
∀ z1 : Int,
(z1 = selI (errM m) (w64 (detZ m)) →
∀ z3 : Int,
(z3 = errM m →
(((decide (z3 = 0)) = true →
 (((!(decide (z1 = 1))) = true →
  (((!(decide (z1 = (-1)))) = true →
   (3, ()) = (uniE m, ())) ∧
  ((!(decide (z1 = (-1)))) = false →
  (z3, ()) = (uniE m, ())))) ∧
 ((!(decide (z1 = 1))) = false →
 (z3, ()) = (uniE m, ())))) ∧
((decide (z3 = 0)) = false →
(z3, ()) = (uniE m, ()))))))
theorem r_opmatrix (x : HL C_opmatrix.args) : runs (env0 [(112, C_Det.hid)] [] []) 400 93 C_opmatrix x = T_opmatrix x.1 := by kernel_rfl
theorem p_opmatrix (m : M3) (h0 : (Sh.agg .mat).okA m) : T_opmatrix m := by
  rcases errM_cases m with hm | hm <;> simp [T_opmatrix, hm, uniE, selI] <;> grind
theorem s_opmatrix : Sound Tryz.prog 93 C_opmatrix :=
  sound_of_eq (env0_ok (.cons s_Det.hid (.nil))) (fun x => T_opmatrix x.1) r_opmatrix fun x ok hp => p_opmatrix x.1 ok.1
noncomputable def C_opcheck : Contract := { args := [.list .op], res := [.int .i64], pre := fun _ => True, F := fun x => ((errL x.1 : Int), ()) }
def T_opcheck (l : List Op3) : Prop :=
  (chInv l 0 0 ∧
∀ z1 : Int,
((decide ((-9223372036854775808) ≤ z1)) = true →
((decide (z1 ≤ 9223372036854775807)) = true →
∀ z4 : Int,
((decide ((-9223372036854775808) ≤ z4)) = true →
((decide (z4 ≤ 9223372036854775807)) = true →
(chInv l z1 z4 →
(((decide (z1 < (l.length : Int))) = true →
 (inB l z1 ∧
 (((decide ((((l.getD (z1).toNat (Op3.mk (M3.mk 0 0 0 0 0 0 0 0 0) (V3.mk 0 0 0)))).T).x < 0)) = true →
  (3, ()) = (errL l, ())) ∧
 ((decide ((((l.getD (z1).toNat (Op3.mk (M3.mk 0 0 0 0 0 0 0 0 0) (V3.mk 0 0 0)))).T).x < 0)) = false →
 (((decide (24 ≤ (((l.getD (z1).toNat (Op3.mk (M3.mk 0 0 0 0 0 0 0 0 0) (V3.mk 0 0 0)))).T).x)) = true →
  (3, ()) = (errL l, ())) ∧
 ((decide (24 ≤ (((l.getD (z1).toNat (Op3.mk (M3.mk 0 0 0 0 0 0 0 0 0) (V3.mk 0 0 0)))).T).x)) = false →
 (((decide ((((l.getD (z1).toNat (Op3.mk (M3.mk 0 0 0 0 0 0 0 0 0) (V3.mk 0 0 0)))).T).y < 0)) = true →
  (3, ()) = (errL l, ())) ∧
 ((decide ((((l.getD (z1).toNat (Op3.mk (M3.mk 0 0 0 0 0 0 0 0 0) (V3.mk 0 0 0)))).T).y < 0)) = false →
 (((decide (24 ≤ (((l.getD (z1).toNat (Op3.mk (M3.mk 0 0 0 0 0 0 0 0 0) (V3.mk 0 0 0)))).T).y)) = true →
  (3, ()) = (errL l, ())) ∧
 ((decide (24 ≤ (((l.getD (z1).toNat (Op3.mk (M3.mk 0 0 0 0 0 0 0 0 0) (V3.mk 0 0 0)))).T).y)) = false →
 (((decide ((((l.getD (z1).toNat (Op3.mk (M3.mk 0 0 0 0 0 0 0 0 0) (V3.mk 0 0 0)))).T).z < 0)) = true →
  (3, ()) = (errL l, ())) ∧
 ((decide ((((l.getD (z1).toNat (Op3.mk (M3.mk 0 0 0 0 0 0 0 0 0) (V3.mk 0 0 0)))).T).z < 0)) = false →
 (((decide (24 ≤ (((l.getD (z1).toNat (Op3.mk (M3.mk 0 0 0 0 0 0 0 0 0) (V3.mk 0 0 0)))).T).z)) = true →
  (3, ()) = (errL l, ())) ∧
 ((decide (24 ≤ (((l.getD (z1).toNat (Op3.mk (M3.mk 0 0 0 0 0 0 0 0 0) (V3.mk 0 0 0)))).T).z)) = false →
 (True ∧
 ∀ z15 : Int,
 (z15 = uniE (((l.getD (z1).toNat (Op3.mk (M3.mk 0 0 0 0 0 0 0 0 0) (V3.mk 0 0 0)))).R) →
 (((decide (z15 = 3)) = true →
  (3, ()) = (errL l, ())) ∧
 ((decide (z15 = 3)) = false →
 (((decide (z15 = 4)) = true →
  (chInv l ((w64 (z1 + 1))) 4 ∧
  ((decide (0 ≤ opMu l ((w64 (z1 + 1))))) = true ∧
  (decide (opMu l ((w64 (z1 + 1))) < opMu l z1)) = true))) ∧
 ((decide (z15 = 4)) = false →
 (chInv l ((w64 (z1 + 1))) z4 ∧
 ((decide (0 ≤ opMu l ((w64 (z1 + 1))))) = true ∧
 (decide (opMu l ((w64 (z1 + 1))) < opMu l z1)) = true)))))))))))))))))))))) ∧
((decide (z1 < (l.length : Int))) = false →
(z4, ()) = (errL l, ())))))))))
theorem r_opcheck (x : HL C_opcheck.args) : runs (env0 [(93, C_opmatrix.hid)] [(67, 3, { fix := [(.tmp 8, .list .op)], vars := [(.tmp 10, .int .i64), (.tmp 3, .int .i64)], inv := fun y v => chInv y.1 v.1 v.2.1, mu := fun y v => opMu y.1 v.1 })] []) 400 67 C_opcheck x = T_opcheck x.1 := by kernel_rfl
theorem p_opcheck (l : List Op3) (h0 : (Sh.list .op).okA l) : T_opcheck l := by
  refine ⟨⟨by omega, by omega, by simp, rfl⟩, fun i _ _ w _ _ hI => ⟨fun hi => ?_, fun hi => ch_end hI (of_decide_eq_false hi)⟩⟩
  have hi := of_decide_eq_true hi
  have i0 := hI.1
  have hb : l.length * 96 ≤ 140737488355328 := Nat.le_trans h0.2 (by decide)
  generalize hd : (Op3.mk (M3.mk 0 0 0 0 0 0 0 0 0) (V3.mk 0 0 0)) = d
  have bad := ch_bad i0 hi (d := d)
  have next := ch_next hb hI hi (d := d)
  generalize l.getD i.toNat d = o at bad next
  have e3 : inT o.T = false → errO o = 3 := fun h => by unfold errO; rw [if_neg (by rw [h]; decide)]
  have f3 : inT o.T = true → errO o = uniE o.R := fun h => by unfold errO; rw [if_pos h]
  have nT : ¬ ((0 ≤ o.T.x ∧ o.T.x ≤ 23) ∧ (0 ≤ o.T.y ∧ o.T.y ≤ 23) ∧ (0 ≤ o.T.z ∧ o.T.z ≤ 23)) → errO o = 3 := fun h => e3 (by rw [Bool.eq_false_iff]; exact fun h' => h (inT_iff.1 h'))
  refine ⟨⟨i0, hi⟩, fun h1 => bad (nT ?_), fun h1 => ⟨fun h2 => bad (nT ?_), fun h2 => ⟨fun h3 => bad (nT ?_), fun h3 => ⟨fun h4 => bad (nT ?_), fun h4 => ⟨fun h5 => bad (nT ?_), fun h5 => ⟨fun h6 => bad (nT ?_), fun h6 => ⟨trivial, fun z hz => ?_⟩⟩⟩⟩⟩⟩⟩
  · have := of_decide_eq_true h1; omega
  · have := of_decide_eq_true h2; omega
  · have := of_decide_eq_true h3; omega
  · have := of_decide_eq_true h4; omega
  · have := of_decide_eq_true h5; omega
  · have := of_decide_eq_true h6; omega
  · have g1 := of_decide_eq_false h1
    have g2 := of_decide_eq_false h2
    have g3 := of_decide_eq_false h3
    have g4 := of_decide_eq_false h4
    have g5 := of_decide_eq_false h5
    have g6 := of_decide_eq_false h6
    have hT : inT o.T = true := inT_iff.2 ⟨⟨by omega, by omega⟩, ⟨by omega, by omega⟩, ⟨by omega, by omega⟩⟩
    have he := f3 hT
    refine ⟨fun h => bad ?_, fun h => ⟨fun h' => next ?_ ?_, fun h' => next ?_ ?_⟩⟩
    · rw [he, ← hz]; exact of_decide_eq_true h
    · rw [he, ← hz]; exact of_decide_eq_false h
    · rw [he, ← hz, if_pos (of_decide_eq_true h')]
    · rw [he, ← hz]; exact of_decide_eq_false h
    · rw [he, ← hz, if_neg (of_decide_eq_false h')]
theorem s_opcheck : Sound Tryz.prog 67 C_opcheck :=
  sound_of_eq (env0_ok (.cons s_opmatrix.hid (.nil))) (fun x => T_opcheck x.1) r_opcheck fun x ok hp => p_opcheck x.1 ok.1
noncomputable def C_opOne : Contract := { args := [], res := [.agg .op], pre := fun _ => True, F := fun x => ((oneO : Op3), ()) }
def T_opOne  : Prop :=
  (True ∧
((Op3.mk (oneZ 1) (V3.mk 0 0 0)), ()) = (oneO, ()))
theorem r_opOne (x : HL C_opOne.args) : runs (env0 [(43, C_Identity)] [] []) 400 19 C_opOne x = T_opOne  := by kernel_rfl
theorem p_opOne   : T_opOne  := by
  exact ⟨trivial, rfl⟩
theorem s_opOne : Sound Tryz.prog 19 C_opOne :=
  sound_of_eq (env0_ok (.cons s_Identity (.nil))) (fun x => T_opOne ) r_opOne fun x ok hp => p_opOne  
noncomputable def C_opshift : Contract := { args := [.agg .mat, .agg .vec], res := [.agg .vec], pre := fun x => inTp x.2.1, F := fun x => ((shiT x.1 x.2.1 : V3), ()) }
def T_opshift (r : M3) (t : V3) : Prop :=
  (True ∧
(True ∧
(True ∧
(True ∧
(True ∧
(True ∧
(True ∧
(True ∧
(True ∧
(True ∧
(True ∧
(True ∧
(True ∧
(True ∧
(True ∧
(True ∧
(True ∧
(True ∧
((V3.mk (r24 ((w64 ((r24 ((w64 ((r24 ((0 + (w64 (r24 r.xx * t.x)))) + (w64 (r24 r.xy * t.y)))))) + (w64 (r24 r.xz * t.z))))))) (r24 ((w64 ((r24 ((w64 ((r24 ((0 + (w64 (r24 r.yx * t.x)))) + (w64 (r24 r.yy * t.y)))))) + (w64 (r24 r.yz * t.z))))))) (r24 ((w64 ((r24 ((w64 ((r24 ((0 + (w64 (r24 r.zx * t.x)))) + (w64 (r24 r.zy * t.y)))))) + (w64 (r24 r.zz * t.z)))))))), ()) = (shiT r t, ())))))))))))))))))))
theorem r_opshift (x : HL C_opshift.args) : runs (env0 [(118, C_opmod)] [] []) 400 97 C_opshift x = T_opshift x.1 x.2.1 := by kernel_rfl
theorem p_opshift (r : M3) (t : V3) (h0 : (Sh.agg .mat).okA r) (h1 : (Sh.agg .vec).okA t) (hp : inTp t) : T_opshift r t := by
  unfold T_opshift
  rw [shi_ok r hp]
  simp
theorem s_opshift : Sound Tryz.prog 97 C_opshift :=
  sound_of_eq (env0_ok (.cons s_opmod (.nil))) (fun x => T_opshift x.1 x.2.1) r_opshift fun x ok hp => p_opshift x.1 x.2.1 ok.1 ok.2.1 hp
noncomputable def C_opmul : Contract := { args := [.agg .op, .agg .op], res := [.agg .op], pre := fun x => mulPre x.1 x.2.1, F := fun x => ((mulO x.1 x.2.1 : Op3), ()) }
def T_opmul (a : Op3) (b : Op3) : Prop :=
  (True ∧
∀ z2 : M3,
(z2 = selM (err2 (errM a.R) (errM b.R)) (wM (mulZ a.R b.R)) →
∀ z4 : Int,
(z4 = err2 (errM a.R) (errM b.R) →
(inTp b.T ∧
(True ∧
((Op3.mk z2 (addT (shiT a.R b.T) a.T)), ()) = (mulO a b, ()))))))
theorem r_opmul (x : HL C_opmul.args) : runs (env0 [(95, C_Mul.hid), (97, C_opshift), (96, C_fAdd)] [] []) 400 69 C_opmul x = T_opmul x.1 x.2.1 := by kernel_rfl
theorem p_opmul (a : Op3) (b : Op3) (h0 : (Sh.agg .op).okA a) (h1 : (Sh.agg .op).okA b) (hp : mulPre a b) : T_opmul a b := by
  obtain ⟨p1, p2, p3, p4⟩ := hp
  refine ⟨trivial, fun z hz e _ => ⟨p4, trivial, ?_⟩⟩
  rw [hz, p1, p2, mul_T]
  show (Op3.mk (wM (mulZ a.R b.R)) (mulO a b).T, ()) = _
  rw [mul_R p1 p2]; rfl
theorem s_opmul : Sound Tryz.prog 69 C_opmul :=
  sound_of_eq (env0_ok (.cons s_Mul.hid (.cons s_opshift (.cons s_fAdd (.nil))))) (fun x => T_opmul x.1 x.2.1) r_opmul fun x ok hp => p_opmul x.1 x.2.1 ok.1 ok.2.1 hp
noncomputable def C_opmade : Contract := { args := [.agg .op], res := [.agg .op, .int .i64], pre := fun _ => True, F := fun x => ((selO (errM x.1.R) x.1 : Op3), (errM x.1.R : Int), ()) }
def T_opmade (o : Op3) : Prop :=
  (True ∧
(((!(decide (errM o.R = 0))) = true →
 ((Op3.mk (M3.mk 0 0 0 0 0 0 0 0 0) (V3.mk 0 0 0)), (errM o.R, ())) = (selO (errM o.R) o, (errM o.R, ()))) ∧
((!(decide (errM o.R = 0))) = false →
(o, (0, ())) = (selO (errM o.R) o, (errM o.R, ())))))
theorem r_opmade (x : HL C_opmade.args) : runs (env0 [(94, C_check)] [] []) 400 68 C_opmade x = T_opmade x.1 := by kernel_rfl
theorem p_opmade (o : Op3) (h0 : (Sh.agg .op).okA o) : T_opmade o := by
  by_cases he : errM o.R = 0 <;> simp [T_opmade, he, selO, zerO]
theorem s_opmade : Sound Tryz.prog 68 C_opmade :=
  sound_of_eq (env0_ok (.cons s_check (.nil))) (fun x => T_opmade x.1) r_opmade fun x ok hp => p_opmade x.1 ok.1
noncomputable def C_opMul : Contract := { args := [.agg .op, .agg .op], res := [.agg .op, .int .i64], pre := fun _ => True, F := fun x => ((selO (mulE x.1 x.2.1) (mulO x.1 x.2.1) : Op3), (mulE x.1 x.2.1 : Int), ()) }
def T_opMul (a : Op3) (b : Op3) : Prop :=
  (True ∧
(((!(decide (errL ([a, b]) = 0))) = true →
 ((Op3.mk (M3.mk 0 0 0 0 0 0 0 0 0) (V3.mk 0 0 0)), (errL ([a, b]), ())) = (selO (mulE a b) (mulO a b), (mulE a b, ()))) ∧
((!(decide (errL ([a, b]) = 0))) = false →
(mulPre a b ∧
∀ z3 : Op3,
(z3 = mulO a b →
(True ∧
((selO (errM z3.R) z3), (errM z3.R, ())) = (selO (mulE a b) (mulO a b), (mulE a b, ()))))))))
theorem r_opMul (x : HL C_opMul.args) : runs (env0 [(67, C_opcheck), (69, C_opmul.hid), (68, C_opmade)] [] []) 400 48 C_opMul x = T_opMul x.1 x.2.1 := by kernel_rfl
theorem p_opMul (a : Op3) (b : Op3) (h0 : (Sh.agg .op).okA a) (h1 : (Sh.agg .op).okA b) : T_opMul a b := by
  by_cases he : errL [a, b] = 0
  · have hm : mulE a b = errM (mulO a b).R := by unfold mulE; rw [if_pos he]; rfl
    simp [T_opMul, he, errL_pre he, hm]
  · have hm : mulE a b = errL [a, b] := by unfold mulE; rw [if_neg he]
    simp [T_opMul, he, hm, selO, zerO]
theorem s_opMul : Sound Tryz.prog 48 C_opMul :=
  sound_of_eq (env0_ok (.cons s_opcheck (.cons s_opmul.hid (.cons s_opmade (.nil))))) (fun x => T_opMul x.1 x.2.1) r_opMul fun x ok hp => p_opMul x.1 x.2.1 ok.1 ok.2.1
noncomputable def C_opCompare : Contract := { args := [.agg .op, .agg .op], res := [.int .i64], pre := fun _ => True, F := fun x => ((cmpO x.1 x.2.1 : Int), ()) }
def T_opCompare (a : Op3) (b : Op3) : Prop :=
  (True ∧
(((!(decide (cmpM a.R b.R = 0))) = true →
 (cmpM a.R b.R, ()) = (cmpO a b, ())) ∧
((!(decide (cmpM a.R b.R = 0))) = false →
(True ∧
(((!(decide (cmpE a.T.x b.T.x 0 = 0))) = true →
 (cmpE a.T.x b.T.x 0, ()) = (cmpO a b, ())) ∧
((!(decide (cmpE a.T.x b.T.x 0 = 0))) = false →
(True ∧
(((!(decide (cmpE a.T.y b.T.y 0 = 0))) = true →
 (cmpE a.T.y b.T.y 0, ()) = (cmpO a b, ())) ∧
((!(decide (cmpE a.T.y b.T.y 0 = 0))) = false →
(True ∧
(((!(decide (cmpE a.T.z b.T.z 0 = 0))) = true →
 (cmpE a.T.z b.T.z 0, ()) = (cmpO a b, ())) ∧
((!(decide (cmpE a.T.z b.T.z 0 = 0))) = false →
(0, ()) = (cmpO a b, ())))))))))))))
theorem r_opCompare (x : HL C_opCompare.args) : runs (env0 [(71, C_Compare), (72, C_cmpInt)] [] []) 400 50 C_opCompare x = T_opCompare x.1 x.2.1 := by kernel_rfl
theorem p_opCompare (a : Op3) (b : Op3) (h0 : (Sh.agg .op).okA a) (h1 : (Sh.agg .op).okA b) : T_opCompare a b := by
  unfold T_opCompare cmpO cmpV
  by_cases h1 : cmpM a.R b.R = 0
  · rw [if_pos h1]
    have key : ∀ x y k : Int, cmpE x y k = if cmpE x y 0 = 0 then k else cmpE x y 0 := fun x y k => by
      unfold cmpE; by_cases h : x < y <;> by_cases h' : y < x <;> simp [h, h']
    rw [key a.T.x, key a.T.y, key a.T.z b.T.z 0]
    by_cases h2 : cmpE a.T.x b.T.x 0 = 0 <;> by_cases h3 : cmpE a.T.y b.T.y 0 = 0 <;> by_cases h4 : cmpE a.T.z b.T.z 0 = 0 <;> simp [h1, h2, h3, h4]
  · rw [if_neg h1]; simp [h1]
theorem s_opCompare : Sound Tryz.prog 50 C_opCompare :=
  sound_of_eq (env0_ok (.cons s_Compare (.cons s_cmpInt (.nil)))) (fun x => T_opCompare x.1 x.2.1) r_opCompare fun x ok hp => p_opCompare x.1 x.2.1 ok.1 ok.2.1
end Go.Fx
