/-
  Contracts: r10DocMove.
-/
import Derived.Test.YtolbgdfbdlddaaaK12
namespace Go.Fx
open Go Go.Proofs
set_option maxRecDepth 100000
set_option linter.unusedVariables false
set_option linter.unusedSimpArgs false
set_option linter.unusedSectionVars false
noncomputable def C_r10DocMove : Contract := { args := [.agg .op, .agg .vec, .agg .vec], res := [.agg .vec, .int .i64], pre := fun _ => True, F := fun x => ((muV x.1 x.2.1 x.2.2.1 : V3), (muE x.1 x.2.1 x.2.2.1 : Int), ()) }
def T_r10DocMove (o : Op3) (n : V3) (a : V3) : Prop :=
  (True ∧
∀ z3 : Int,
(z3 = sidE n →
((((decide (a.x < 0)) = true →
  dmI n a 0 1) ∧
 ((decide (a.x < 0)) = false →
 (((decide (n.x ≤ a.x)) = true →
  dmI n a 0 1) ∧
 ((decide (n.x ≤ a.x)) = false →
 dmI n a 0 z3)))) ∧
∀ z5 : Int,
((decide ((-9223372036854775808) ≤ z5)) = true →
((decide (z5 ≤ 9223372036854775807)) = true →
(dmI n a 0 z5 →
((((decide (a.y < 0)) = true →
  dmI n a 1 1) ∧
 ((decide (a.y < 0)) = false →
 (((decide (n.y ≤ a.y)) = true →
  dmI n a 1 1) ∧
 ((decide (n.y ≤ a.y)) = false →
 dmI n a 1 z5)))) ∧
∀ z9 : Int,
((decide ((-9223372036854775808) ≤ z9)) = true →
((decide (z9 ≤ 9223372036854775807)) = true →
(dmI n a 1 z9 →
((((decide (a.z < 0)) = true →
  dmI n a 2 1) ∧
 ((decide (a.z < 0)) = false →
 (((decide (n.z ≤ a.z)) = true →
  dmI n a 2 1) ∧
 ((decide (n.z ≤ a.z)) = false →
 dmI n a 2 z9)))) ∧
∀ z13 : Int,
((decide ((-9223372036854775808) ≤ z13)) = true →
((decide (z13 ≤ 9223372036854775807)) = true →
(dmI n a 2 z13 →
(True ∧
∀ z17 : Int,
(z17 = errO o →
(True ∧
∀ z19 : Int,
(z19 = lstE ([z13, z17]) →
((((decide (z19 = 0)) = true →
  (sidP n ∧
  ∀ z22 : Bool,
  (z22 = fitB o n →
  (((!z22) = true →
   eqP 6 (muE o n a)) ∧
  ((!z22) = false →
  eqP z19 (muE o n a)))))) ∧
 ((decide (z19 = 0)) = false →
 eqP z19 (muE o n a))) ∧
∀ z21 : Int,
((decide ((-9223372036854775808) ≤ z21)) = true →
((decide (z21 ≤ 9223372036854775807)) = true →
(eqP z21 (muE o n a) →
(((!(decide (z21 = 0))) = true →
 ((V3.mk 0 0 0), (z21, ())) = (muV o n a, (muE o n a, ()))) ∧
((!(decide (z21 = 0))) = false →
(movP o n a ∧
∀ z26 : V3,
(z26 = movV o n a →
(z26, (0, ())) = (muV o n a, (muE o n a, ()))))))))))))))))))))))))))))
theorem r_r10DocMove (x : HL C_r10DocMove.args) : runs (env0 [(47, C_r10Sides.hid), (49, C_r10Least.hid), (52, C_r3Check.hid), (50, C_r10Fits.hid), (53, C_r10Move.hid)] [] [(17, 4, { fix := [(.tmp 9, .int .i64)], vars := [(.tmp 8, .int .i64)], inv := fun y v => dmI x.2.1 x.2.2.1 y.1 v.1, mu := fun y v => 0 }), (17, 10, { fix := [], vars := [(.tmp 8, .int .i64)], inv := fun y v => eqP v.1 (muE x.1 x.2.1 x.2.2.1), mu := fun y v => 0 })]) 1500 17 C_r10DocMove x = T_r10DocMove x.1 x.2.1 x.2.2.1 := by kernel_rfl
theorem p_r10DocMove (o : Op3) (n : V3) (a : V3) (h0 : (Sh.agg .op).okA o) (h1 : (Sh.agg .vec).okA n) (h2 : (Sh.agg .vec).okA a) : T_r10DocMove o n a := by
  unfold T_r10DocMove
  refine ⟨trivial, fun s hs => ?_⟩
  subst hs
  refine ⟨dm_0 _ n a, fun e1 _ _ h1 => ⟨dm_1 h1, fun e2 _ _ h2 => ⟨dm_2 h2, fun e3 _ _ h3 => ⟨trivial, fun f hf => ⟨trivial, fun z hz0 => ?_⟩⟩⟩⟩⟩
  have hz : z = if inG n a = true then lsE (errO o) (sidE n) else 1 := by
    have h3 : e3 = if inG n a = true then sidE n else 1 := h3
    rw [hz0, lstE_two, h3, hf]
    split
    · exact lsE_comm (sid_nn n) (errO_nn o)
    · exact lsE_one o
  refine ⟨⟨fun k => ?_, fun k => by show _ = _; rw [(mu_eq hz).2 (of_decide_eq_false k)]⟩, fun w _ _ hw => ⟨fun k => ?_, fun k => ?_⟩⟩
  · obtain ⟨m1, m2, m3⟩ := (mu_eq hz).1 (of_decide_eq_true k)
    exact ⟨m1, fun b hb => ⟨fun c => (m2 (by rw [← hb]; simpa using c)).symm, fun c => (m3 (by rw [← hb]; simpa using c)).symm⟩⟩
  · have hw : w = muE o n a := hw
    have k : w ≠ 0 := by simpa using k
    unfold muV; rw [if_neg (by rw [← hw]; exact k), hw]
  · have hw : w = muE o n a := hw
    have k : w = 0 := by simpa using k
    have hm : muE o n a = 0 := by rw [← hw]; exact k
    exact ⟨mu_zero hm, fun v hv => by unfold muV; rw [if_pos hm, hv, hm]⟩
theorem s_r10DocMove : Sound Try.prog 17 C_r10DocMove :=
  sound_of_eqs (fun x => env0 [(47, C_r10Sides.hid), (49, C_r10Least.hid), (52, C_r3Check.hid), (50, C_r10Fits.hid), (53, C_r10Move.hid)] [] [(17, 4, { fix := [(.tmp 9, .int .i64)], vars := [(.tmp 8, .int .i64)], inv := fun y v => dmI x.2.1 x.2.2.1 y.1 v.1, mu := fun y v => 0 }), (17, 10, { fix := [], vars := [(.tmp 8, .int .i64)], inv := fun y v => eqP v.1 (muE x.1 x.2.1 x.2.2.1), mu := fun y v => 0 })]) (fun _ => rfl) (fun _ => env0_ok (.cons s_r10Sides.hid (.cons s_r10Least.hid (.cons s_r3Check.hid (.cons s_r10Fits.hid (.cons s_r10Move.hid (.nil))))))) (fun x => T_r10DocMove x.1 x.2.1 x.2.2.1) r_r10DocMove fun x ok hp => p_r10DocMove x.1 x.2.1 x.2.2.1 ok.1 ok.2.1 ok.2.2.1
end Go.Fx
