/-
  Contracts: uMove.
-/
import Derived.Test.YtolbgdfbdlddaaaK10
namespace Go.Fx
open Go Go.Proofs
set_option maxRecDepth 100000
set_option linter.unusedVariables false
set_option linter.unusedSimpArgs false
set_option linter.unusedSectionVars false
noncomputable def C_uMove : Contract := { args := [.agg .op, .agg .vec, .agg .vec], res := [.agg .vec, .int .i64], pre := fun _ => True, F := fun x => ((muV x.1 x.2.1 x.2.2.1 : V3), (muE x.1 x.2.1 x.2.2.1 : Int), ()) }
def T_uMove (o : Op3) (n : V3) (a : V3) : Prop :=
  (True ∧
(True ∧
(True ∧
∀ z3 : Int,
(z3 = sidE n →
(True ∧
∀ z5 : Int,
(z5 = lsE (mulE o oneO) z3 →
((((decide (a.x < 0)) = true →
  dmJ o n a 0 1) ∧
 ((decide (a.x < 0)) = false →
 (((decide (n.x ≤ a.x)) = true →
  dmJ o n a 0 1) ∧
 ((decide (n.x ≤ a.x)) = false →
 dmJ o n a 0 z5)))) ∧
∀ z7 : Int,
((decide ((-9223372036854775808) ≤ z7)) = true →
((decide (z7 ≤ 9223372036854775807)) = true →
(dmJ o n a 0 z7 →
((((decide (a.y < 0)) = true →
  dmJ o n a 1 1) ∧
 ((decide (a.y < 0)) = false →
 (((decide (n.y ≤ a.y)) = true →
  dmJ o n a 1 1) ∧
 ((decide (n.y ≤ a.y)) = false →
 dmJ o n a 1 z7)))) ∧
∀ z11 : Int,
((decide ((-9223372036854775808) ≤ z11)) = true →
((decide (z11 ≤ 9223372036854775807)) = true →
(dmJ o n a 1 z11 →
((((decide (a.z < 0)) = true →
  dmJ o n a 2 1) ∧
 ((decide (a.z < 0)) = false →
 (((decide (n.z ≤ a.z)) = true →
  dmJ o n a 2 1) ∧
 ((decide (n.z ≤ a.z)) = false →
 dmJ o n a 2 z11)))) ∧
∀ z15 : Int,
((decide ((-9223372036854775808) ≤ z15)) = true →
((decide (z15 ≤ 9223372036854775807)) = true →
(dmJ o n a 2 z15 →
((((decide (z15 = 0)) = true →
  (sidP n ∧
  ∀ z20 : Bool,
  (z20 = fitB o n →
  (((!z20) = true →
   eqP 6 (muE o n a)) ∧
  ((!z20) = false →
  eqP z15 (muE o n a)))))) ∧
 ((decide (z15 = 0)) = false →
 eqP z15 (muE o n a))) ∧
∀ z19 : Int,
((decide ((-9223372036854775808) ≤ z19)) = true →
((decide (z19 ≤ 9223372036854775807)) = true →
(eqP z19 (muE o n a) →
(((!(decide (z19 = 0))) = true →
 ((V3.mk 0 0 0), (z19, ())) = (muV o n a, (muE o n a, ()))) ∧
((!(decide (z19 = 0))) = false →
(movP o n a ∧
∀ z24 : V3,
(z24 = movV o n a →
(z24, (0, ())) = (muV o n a, (muE o n a, ()))))))))))))))))))))))))))))
theorem r_uMove (x : HL C_uMove.args) : runs (env0 [(30, C_opMul.hid), (33, C_opOne), (45, C_usides.hid), (43, C_uleast.hid), (46, C_ufits.hid), (51, C_umove.hid)] [] [(16, 8, { fix := [(.tmp 23, .int .i64)], vars := [(.tmp 9, .int .i64)], inv := fun y v => dmJ x.1 x.2.1 x.2.2.1 y.1 v.1, mu := fun y v => 0 }), (16, 11, { fix := [], vars := [(.tmp 9, .int .i64)], inv := fun y v => eqP v.1 (muE x.1 x.2.1 x.2.2.1), mu := fun y v => 0 })]) 1500 16 C_uMove x = T_uMove x.1 x.2.1 x.2.2.1 := by kernel_rfl
theorem p_uMove (o : Op3) (n : V3) (a : V3) (h0 : (Sh.agg .op).okA o) (h1 : (Sh.agg .vec).okA n) (h2 : (Sh.agg .vec).okA a) : T_uMove o n a := by
  unfold T_uMove
  refine ⟨trivial, trivial, trivial, fun s hs => ⟨trivial, fun e he => ?_⟩⟩
  subst hs he
  refine ⟨dm_0 _ n a, fun e1 _ _ h1 => ⟨dm_1 h1, fun e2 _ _ h2 => ⟨dm_2 h2, fun e3 _ _ h3 => ?_⟩⟩⟩
  have hz : e3 = if inG n a = true then lsE (errO o) (sidE n) else 1 := by
    have h3 : e3 = if inC n a 2 = true then lsE (mulE o oneO) (sidE n) else 1 := h3
    rw [h3, mulE_oneR]; rfl
  refine ⟨⟨fun k => ?_, fun k => by show _ = _; rw [(mu_eq hz).2 (of_decide_eq_false k)]⟩, fun w _ _ hw => ⟨fun k => ?_, fun k => ?_⟩⟩
  · obtain ⟨m1, m2, m3⟩ := (mu_eq hz).1 (of_decide_eq_true k)
    exact ⟨m1, fun b hb => ⟨fun c => (m2 (by rw [← hb]; simpa using c)).symm, fun c => (m3 (by rw [← hb]; simpa using c)).symm⟩⟩
  · have hw : w = muE o n a := hw
    have k : w ≠ 0 := by simpa using k
    unfold muV; rw [if_neg (by rw [← hw]; exact k), hw]
  · have hw : w = muE o n a := hw
    have k : w = 0 := by simpa using k
    have hm : muE o n a = 0 := by rw [← hw]; exact k
    exact ⟨mu_zero hm, fun v hv => by unfold muV; rw [if_pos hm, hv, hm]⟩
theorem s_uMove : Sound Try.prog 16 C_uMove :=
  sound_of_eqs (fun x => env0 [(30, C_opMul.hid), (33, C_opOne), (45, C_usides.hid), (43, C_uleast.hid), (46, C_ufits.hid), (51, C_umove.hid)] [] [(16, 8, { fix := [(.tmp 23, .int .i64)], vars := [(.tmp 9, .int .i64)], inv := fun y v => dmJ x.1 x.2.1 x.2.2.1 y.1 v.1, mu := fun y v => 0 }), (16, 11, { fix := [], vars := [(.tmp 9, .int .i64)], inv := fun y v => eqP v.1 (muE x.1 x.2.1 x.2.2.1), mu := fun y v => 0 })]) (fun _ => rfl) (fun _ => env0_ok (.cons s_opMul.hid (.cons s_opOne (.cons s_usides.hid (.cons s_uleast.hid (.cons s_ufits.hid (.cons s_umove.hid (.nil)))))))) (fun x => T_uMove x.1 x.2.1 x.2.2.1) r_uMove fun x ok hp => p_uMove x.1 x.2.1 x.2.2.1 ok.1 ok.2.1 ok.2.2.1
end Go.Fx
