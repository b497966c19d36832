/-
  Contracts: OpTurns.
-/
import Derived.Test.YthljaepanhdmiaaK17
namespace Go.Fx
open Go Go.Proofs
set_option maxRecDepth 100000
set_option linter.unusedVariables false
noncomputable def C_OpTurns : Contract := { args := [.agg .op, .agg .op], res := [.bool], pre := fun _ => True, F := fun x => ((true : Bool), ()) }
def T_OpTurns (o : Op3) (m : Op3) : Prop :=
  (True ∧
(((!true) = true →
 (false, ()) = (true, ())) ∧
((!true) = false →
(True ∧
∀ z3 : Int,
(z3 = oroZ o →
∀ z5 : Int,
(z5 = oroE o →
(True ∧
∀ z7 : Int,
(z7 = kinZ o →
∀ z9 : Int,
(z9 = kinE o →
(((!(decide (z5 = 0))) = true →
 (((decide (z3 = 0)) = true →
  (((!(decide (z5 = 9))) = true →
   (true, ()) = (true, ())) ∧
  ((!(decide (z5 = 9))) = false →
  ((decide (z9 = 9)), ()) = (true, ())))) ∧
 ((decide (z3 = 0)) = false →
 (false, ()) = (true, ())))) ∧
((!(decide (z5 = 0))) = false →
(((!(decide (z9 = 0))) = true →
 (false, ()) = (true, ())) ∧
((!(decide (z9 = 0))) = false →
(((decide (z3 < 1)) = true →
 (false, ()) = (true, ())) ∧
((decide (z3 < 1)) = false →
(((decide (144 < z3)) = true →
 (false, ()) = (true, ())) ∧
((decide (144 < z3)) = false →
(True ∧
(otInv o z3 1 oneO ∧
∀ z15 : Int,
((decide ((-9223372036854775808) ≤ z15)) = true →
((decide (z15 ≤ 9223372036854775807)) = true →
∀ z18 : Op3,
(otInv o z3 z15 z18 →
(((decide (z15 ≤ z3)) = true →
 (True ∧
 ∀ z21 : Op3,
 (z21 = selO (mulE o z18) (mulO o z18) →
 ∀ z23 : Int,
 (z23 = mulE o z18 →
 (((!(decide (z23 = 0))) = true →
  ((decide (z23 = 4)), ()) = (true, ())) ∧
 ((!(decide (z23 = 0))) = false →
 (True ∧
 (((!(((decide (z21.R.xx = oneO.R.xx)) && ((decide (z21.R.xy = oneO.R.xy)) && ((decide (z21.R.xz = oneO.R.xz)) && ((decide (z21.R.yx = oneO.R.yx)) && ((decide (z21.R.yy = oneO.R.yy)) && ((decide (z21.R.yz = oneO.R.yz)) && ((decide (z21.R.zx = oneO.R.zx)) && ((decide (z21.R.zy = oneO.R.zy)) && ((decide (z21.R.zz = oneO.R.zz)) && ((decide (z21.T.x = oneO.T.x)) && ((decide (z21.T.y = oneO.T.y)) && ((decide (z21.T.z = oneO.T.z)) && true)))))))))))) == (decide (z15 = z3)))) = true →
  (false, ()) = (true, ())) ∧
 ((!(((decide (z21.R.xx = oneO.R.xx)) && ((decide (z21.R.xy = oneO.R.xy)) && ((decide (z21.R.xz = oneO.R.xz)) && ((decide (z21.R.yx = oneO.R.yx)) && ((decide (z21.R.yy = oneO.R.yy)) && ((decide (z21.R.yz = oneO.R.yz)) && ((decide (z21.R.zx = oneO.R.zx)) && ((decide (z21.R.zy = oneO.R.zy)) && ((decide (z21.R.zz = oneO.R.zz)) && ((decide (z21.T.x = oneO.T.x)) && ((decide (z21.T.y = oneO.T.y)) && ((decide (z21.T.z = oneO.T.z)) && true)))))))))))) == (decide (z15 = z3)))) = false →
 (otInv o z3 ((w64 (z15 + 1))) z21 ∧
 ((decide (0 ≤ subMu 145 ((w64 (z15 + 1))))) = true ∧
 (decide (subMu 145 ((w64 (z15 + 1))) < subMu 145 z15)) = true))))))))))) ∧
((decide (z15 ≤ z3)) = false →
(True ∧
∀ z21 : Op3,
(z21 = selO (invE o) (invO o) →
∀ z23 : Int,
(z23 = invE o →
(((decide (z23 = 0)) = true →
 (True ∧
 ∀ z26 : Int,
 (z26 = oroZ z21 →
 ∀ z28 : Int,
 (z28 = oroE z21 →
 (True ∧
 ∀ z30 : Int,
 (z30 = kinZ z21 →
 ∀ z32 : Int,
 (z32 = kinE z21 →
 (((!(decide (z28 = 0))) = true →
  (false, ()) = (true, ())) ∧
 ((!(decide (z28 = 0))) = false →
 (((!(decide (z32 = 0))) = true →
  (false, ()) = (true, ())) ∧
 ((!(decide (z32 = 0))) = false →
 (((!(decide (z26 = z3))) = true →
  (false, ()) = (true, ())) ∧
 ((!(decide (z26 = z3))) = false →
 (((!(decide (z30 = z7))) = true →
  (false, ()) = (true, ())) ∧
 ((!(decide (z30 = z7))) = false →
 (True ∧
 ∀ z38 : Op3,
 (z38 = selO (invE m) (invO m) →
 ∀ z40 : Int,
 (z40 = invE m →
 (((!(decide (z40 = 0))) = true →
  (true, ()) = (true, ())) ∧
 ((!(decide (z40 = 0))) = false →
 (True ∧
 ∀ z43 : Op3,
 (z43 = selO (mulE m o) (mulO m o) →
 ∀ z45 : Int,
 (z45 = mulE m o →
 (True ∧
 ∀ z47 : Op3,
 (z47 = selO (mulE z43 z38) (mulO z43 z38) →
 ∀ z49 : Int,
 (z49 = mulE z43 z38 →
 (((!(decide (z45 = 0))) = true →
  (true, ()) = (true, ())) ∧
 ((!(decide (z45 = 0))) = false →
 (((!(decide (z49 = 0))) = true →
  (true, ()) = (true, ())) ∧
 ((!(decide (z49 = 0))) = false →
 (True ∧
 ∀ z53 : Int,
 (z53 = oroZ z47 →
 ∀ z55 : Int,
 (z55 = oroE z47 →
 (True ∧
 ∀ z57 : Int,
 (z57 = kinZ z47 →
 ∀ z59 : Int,
 (z59 = kinE z47 →
 (((decide (z55 = 0)) = true →
  (((decide (z59 = 0)) = true →
   (((decide (z53 = z3)) = true →
    ((decide (z57 = z7)), ()) = (true, ())) ∧
   ((decide (z53 = z3)) = false →
   (false, ()) = (true, ())))) ∧
  ((decide (z59 = 0)) = false →
  (false, ()) = (true, ())))) ∧
 ((decide (z55 = 0)) = false →
 (false, ()) = (true, ()))))))))))))))))))))))))))))))))))))))) ∧
((decide (z23 = 0)) = false →
(True ∧
∀ z26 : Op3,
(z26 = selO (invE m) (invO m) →
∀ z28 : Int,
(z28 = invE m →
(((!(decide (z28 = 0))) = true →
 (true, ()) = (true, ())) ∧
((!(decide (z28 = 0))) = false →
(True ∧
∀ z31 : Op3,
(z31 = selO (mulE m o) (mulO m o) →
∀ z33 : Int,
(z33 = mulE m o →
(True ∧
∀ z35 : Op3,
(z35 = selO (mulE z31 z26) (mulO z31 z26) →
∀ z37 : Int,
(z37 = mulE z31 z26 →
(((!(decide (z33 = 0))) = true →
 (true, ()) = (true, ())) ∧
((!(decide (z33 = 0))) = false →
(((!(decide (z37 = 0))) = true →
 (true, ()) = (true, ())) ∧
((!(decide (z37 = 0))) = false →
(True ∧
∀ z41 : Int,
(z41 = oroZ z35 →
∀ z43 : Int,
(z43 = oroE z35 →
(True ∧
∀ z45 : Int,
(z45 = kinZ z35 →
∀ z47 : Int,
(z47 = kinE z35 →
(((decide (z43 = 0)) = true →
 (((decide (z47 = 0)) = true →
  (((decide (z41 = z3)) = true →
   ((decide (z45 = z7)), ()) = (true, ())) ∧
  ((decide (z41 = z3)) = false →
  (false, ()) = (true, ())))) ∧
 ((decide (z47 = 0)) = false →
 (false, ()) = (true, ())))) ∧
((decide (z43 = 0)) = false →
(false, ()) = (true, ())))))))))))))))))))))))))))))))))))))))))))))))))))))
theorem r_OpTurns (x : HL C_OpTurns.args) : runs (env [(12, C_awake3), (13, C_opOrder.hid), (15, C_opKind.hid), (21, C_opOne), (23, C_opMul.hid), (25, C_opInverse.hid)] [(6, 11, { fix := [(.cell 2, .agg .op), (.cell 3, .agg .op), (.tmp 5, .int .i64), (.tmp 7, .int .i64)], vars := [(.tmp 10, .int .i64), (.cell 9, .agg .op)], inv := fun y v => otInv y.1 y.2.2.1 v.1 v.2.1, mu := fun y v => subMu 145 v.1 })]) 400 6 C_OpTurns x = T_OpTurns x.1 x.2.1 := by kernel_rfl
theorem p_OpTurns (o : Op3) (m : Op3) (h0 : (Sh.agg .op).okA o) (h1 : (Sh.agg .op).okA m) : T_OpTurns o m := by
  unfold T_OpTurns
  have s0 : ∀ x : Op3, selO 0 x = x := fun x => rfl
  by_cases he : oroE o = 0
  case neg =>
    have h1 := ot_none he
    have h2 := @ot_nine o
    by_cases h9 : oroE o = 9
    · simp [h1, h9, h2 h9]
    · simp [h1, he, h9]
  have hk := ot_kin he
  have hr := ot_range he
  have hi := ot_init he
  have tail : ∀ (hm : invE m = 0) (h1 : mulE m o = 0) (h2 : mulE (mulO m o) (invO m) = 0), _ := fun hm h1 h2 => ot_conj he hm h1 h2
  have hl : ¬ oroZ o < 1 := by omega
  have hg : ¬ 144 < oroZ o := by omega
  simp only [eqOc, he, hk, hi, hl, hg, forall_eq, decide_true, decide_false, Bool.not_true, reduceCtorEq, false_implies, true_and, and_true, forall_const]
  intro i _ _ p hI
  refine ⟨fun hc => ?_, fun _ => ?_⟩
  · have hc := of_decide_eq_true hc
    by_cases h0 : mulE o p = 0
    · obtain ⟨n1, n2, n3⟩ := ot_next hI hc h0
      simp only [h0, s0, n1, n2, n3, decide_true, Bool.not_true, reduceCtorEq, false_implies, true_and, and_true, forall_const]
    · have h4 := ot_over hI h0
      simp [h4]
  · by_cases hv : invE o = 0
    · obtain ⟨v1, v2, v3, v4⟩ := ot_inv he hv
      simp only [hv, s0, v1, v2, v3, v4, decide_true, Bool.not_true, reduceCtorEq, false_implies, true_and, and_true, forall_const]
      by_cases hm : invE m = 0
      · by_cases h1 : mulE m o = 0
        · by_cases h2 : mulE (mulO m o) (invO m) = 0
          · obtain ⟨t1, t2, t3, t4⟩ := tail hm h1 h2
            simp [hm, h1, h2, s0, t1, t2, t3, t4]
          · simp [hm, h1, h2, s0]
        · simp [hm, h1]
      · simp [hm]
    · by_cases hm : invE m = 0
      · by_cases h1 : mulE m o = 0
        · by_cases h2 : mulE (mulO m o) (invO m) = 0
          · obtain ⟨t1, t2, t3, t4⟩ := tail hm h1 h2
            simp [hv, hm, h1, h2, s0, t1, t2, t3, t4]
          · simp [hv, hm, h1, h2, s0]
        · simp [hv, hm, h1]
      · simp [hv, hm]
theorem s_OpTurns : Sound Try.prog 6 C_OpTurns :=
  sound_of_eq (env_ok (.cons s_awake3 (.cons s_opOrder.hid (.cons s_opKind.hid (.cons s_opOne (.cons s_opMul.hid (.cons s_opInverse.hid (.nil)))))))) (fun x => T_OpTurns x.1 x.2.1) r_OpTurns fun x ok hp => p_OpTurns x.1 x.2.1 ok.1 ok.2.1
end Go.Fx
