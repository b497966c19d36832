/-
  Contracts: hRight, hturned, hminus, hTurned, hPhase, hcheck.
-/
import Derived.Test.YthoicknhjjlnjaaK4
namespace Go.Fx
open Go Go.Proofs
set_option maxRecDepth 100000
set_option linter.unusedVariables false
set_option linter.unusedSimpArgs false
set_option linter.unusedSectionVars false
noncomputable def C_hRight : Contract := { args := [.agg .vec], res := [.bool], pre := fun _ => True, F := fun x => ((okH x.1 : Bool), ()) }
def T_hRight (h : V3) : Prop :=
  (((decide (h.x < (-512))) = true →
 (false, ()) = (okH h, ())) ∧
((decide (h.x < (-512))) = false →
(((decide (512 < h.x)) = true →
 (false, ()) = (okH h, ())) ∧
((decide (512 < h.x)) = false →
(((decide (h.y < (-512))) = true →
 (false, ()) = (okH h, ())) ∧
((decide (h.y < (-512))) = false →
(((decide (512 < h.y)) = true →
 (false, ()) = (okH h, ())) ∧
((decide (512 < h.y)) = false →
(((decide (h.z < (-512))) = true →
 (false, ()) = (okH h, ())) ∧
((decide (h.z < (-512))) = false →
(((decide (512 < h.z)) = true →
 (false, ()) = (okH h, ())) ∧
((decide (512 < h.z)) = false →
(true, ()) = (okH h, ())))))))))))))
theorem r_hRight (x : HL C_hRight.args) : runs (env0 [] [] []) 400 32 C_hRight x = T_hRight x.1 := by kernel_rfl
theorem p_hRight (h : V3) (h0 : (Sh.agg .vec).okA h) : T_hRight h := by
  simp only [T_hRight, decide_eq_true_eq, decide_eq_false_iff_not]
  repeat' (first | apply And.intro | intro _ | exact trivial)
  all_goals simp only [okH, inE, Prod.mk.injEq, and_true]
  all_goals first | (symm; simp only [Bool.and_eq_true, decide_eq_true_eq]; omega) | (symm; rw [Bool.eq_false_iff]; simp only [ne_eq, Bool.and_eq_true, decide_eq_true_eq]; omega)
theorem s_hRight : Sound Try.prog 32 C_hRight :=
  sound_of_eq (env0_ok (.nil)) (fun x => T_hRight x.1) r_hRight fun x ok hp => p_hRight x.1 ok.1
noncomputable def C_hturned : Contract := { args := [.agg .mat, .agg .vec], res := [.agg .vec], pre := fun _ => True, F := fun x => ((tuV x.1 x.2.1 : V3), ()) }
def T_hturned (r : M3) (h : V3) : Prop :=
  ((V3.mk ((w64 (((w64 (((0 + (w64 (h.x * r.xx))) + (w64 (h.y * r.yx))))) + (w64 (h.z * r.zx)))))) ((w64 (((w64 (((0 + (w64 (h.x * r.xy))) + (w64 (h.y * r.yy))))) + (w64 (h.z * r.zy)))))) ((w64 (((w64 (((0 + (w64 (h.x * r.xz))) + (w64 (h.y * r.yz))))) + (w64 (h.z * r.zz))))))), ()) = (tuV r h, ())
theorem r_hturned (x : HL C_hturned.args) : runs (env0 [] [] []) 400 22 C_hturned x = T_hturned x.1 x.2.1 := by kernel_rfl
theorem p_hturned (r : M3) (h : V3) (h0 : (Sh.agg .mat).okA r) (h1 : (Sh.agg .vec).okA h) : T_hturned r h := by
  simp only [T_hturned, tuV, wV, appZ, traZ, Int.zero_add, w64_add_l, w64_add_r, w64_sub_l, w64_sub_r, w64_mul_l, w64_mul_r, w64_w64, Int.mul_comm]
theorem s_hturned : Sound Try.prog 22 C_hturned :=
  sound_of_eq (env0_ok (.nil)) (fun x => T_hturned x.1 x.2.1) r_hturned fun x ok hp => p_hturned x.1 x.2.1 ok.1 ok.2.1
noncomputable def C_hminus : Contract := { args := [.agg .vec], res := [.agg .vec], pre := fun _ => True, F := fun x => ((ngV x.1 : V3), ()) }
def T_hminus (h : V3) : Prop :=
  ((V3.mk ((w64 (0 - h.x))) ((w64 (0 - h.y))) ((w64 (0 - h.z)))), ()) = (ngV h, ())
theorem r_hminus (x : HL C_hminus.args) : runs (env0 [] [] []) 400 12 C_hminus x = T_hminus x.1 := by kernel_rfl
theorem p_hminus (h : V3) (h0 : (Sh.agg .vec).okA h) : T_hminus h := by
  simp only [T_hminus, ngV, wV, negV, Int.zero_sub]
theorem s_hminus : Sound Try.prog 12 C_hminus :=
  sound_of_eq (env0_ok (.nil)) (fun x => T_hminus x.1) r_hminus fun x ok hp => p_hminus x.1 ok.1
noncomputable def C_hTurned : Contract := { args := [.agg .op, .agg .vec], res := [.agg .vec, .int .i64], pre := fun _ => True, F := fun x => ((htV x.1 x.2.1 : V3), (htE x.1 x.2.1 : Int), ()) }
def T_hTurned (o : Op3) (h : V3) : Prop :=
  (True ∧
∀ z2 : Bool,
(z2 = okH h →
(((!z2) = true →
 ((V3.mk 0 0 0), (1, ())) = (htV o h, (htE o h, ()))) ∧
((!z2) = false →
(True ∧
(True ∧
(((!(decide (mulE oneO o = 0))) = true →
 ((V3.mk 0 0 0), (mulE oneO o, ())) = (htV o h, (htE o h, ()))) ∧
((!(decide (mulE oneO o = 0))) = false →
(True ∧
∀ z6 : V3,
(z6 = tuV o.R h →
(z6, (0, ())) = (htV o h, (htE o h, ()))))))))))))
theorem r_hTurned (x : HL C_hTurned.args) : runs (env0 [(32, C_hRight.hid), (14, C_opOne), (31, C_opMul.hid), (22, C_hturned.hid)] [] []) 400 27 C_hTurned x = T_hTurned x.1 x.2.1 := by kernel_rfl
theorem p_hTurned (o : Op3) (h : V3) (h0 : (Sh.agg .op).okA o) (h1 : (Sh.agg .vec).okA h) : T_hTurned o h := by
  cases hk : okH h <;> by_cases he : errO o = 0 <;> simp [T_hTurned, htV, htE, mulE_one, hk, he]
theorem s_hTurned : Sound Try.prog 27 C_hTurned :=
  sound_of_eq (env0_ok (.cons s_hRight.hid (.cons s_opOne (.cons s_opMul.hid (.cons s_hturned.hid (.nil)))))) (fun x => T_hTurned x.1 x.2.1) r_hTurned fun x ok hp => p_hTurned x.1 x.2.1 ok.1 ok.2.1
noncomputable def C_hPhase : Contract := { args := [.agg .op, .agg .vec], res := [.int .i64, .int .i64], pre := fun _ => True, F := fun x => ((hpI x.1 x.2.1 : Int), (htE x.1 x.2.1 : Int), ()) }
def T_hPhase (o : Op3) (h : V3) : Prop :=
  (True ∧
∀ z2 : V3,
(z2 = htV o h →
∀ z4 : Int,
(z4 = htE o h →
(((!(decide (z4 = 0))) = true →
 (0, (z4, ())) = (hpI o h, (htE o h, ()))) ∧
((!(decide (z4 = 0))) = false →
((((Int.tmod ((w64 (((w64 (((w64 (h.x * o.T.x)) + (w64 (h.y * o.T.y))))) + (w64 (h.z * o.T.z)))))) 24) + 24) % 24), (0, ())) = (hpI o h, (htE o h, ())))))))
theorem r_hPhase (x : HL C_hPhase.args) : runs (env0 [(27, C_hTurned.hid)] [] []) 400 17 C_hPhase x = T_hPhase x.1 x.2.1 := by kernel_rfl
theorem p_hPhase (o : Op3) (h : V3) (h0 : (Sh.agg .op).okA o) (h1 : (Sh.agg .vec).okA h) : T_hPhase o h := by
  unfold T_hPhase hpI
  refine ⟨trivial, fun v _ e he => ⟨fun q => ?_, fun q => ?_⟩⟩
  · have : htE o h ≠ 0 := by rw [← he]; simpa using q
    rw [if_neg this, he]
  · have : htE o h = 0 := by rw [← he]; simpa using q
    rw [if_pos this, this, mod24]; rfl
theorem s_hPhase : Sound Try.prog 17 C_hPhase :=
  sound_of_eq (env0_ok (.cons s_hTurned.hid (.nil))) (fun x => T_hPhase x.1 x.2.1) r_hPhase fun x ok hp => p_hPhase x.1 x.2.1 ok.1 ok.2.1
noncomputable def C_hcheck : Contract := { args := [.list .op, .agg .vec], res := [.int .i64], pre := fun _ => True, F := fun x => ((hkE x.1 x.2.1 : Int), ()) }
def T_hcheck (g : List Op3) (h : V3) : Prop :=
  (True ∧
∀ z2 : Bool,
(z2 = okH h →
(((!z2) = true →
 (1, ()) = (hkE g h, ())) ∧
((!z2) = false →
(True ∧
∀ z5 : Int,
(z5 = chkE g →
(z5, ()) = (hkE g h, ())))))))
theorem r_hcheck (x : HL C_hcheck.args) : runs (env0 [(32, C_hRight.hid), (19, C_gCheck.hid)] [] []) 400 21 C_hcheck x = T_hcheck x.1 x.2.1 := by kernel_rfl
theorem p_hcheck (g : List Op3) (h : V3) (h0 : (Sh.list .op).okA g) (h1 : (Sh.agg .vec).okA h) : T_hcheck g h := by
  cases hk : okH h <;> simp [T_hcheck, hkE, hk]
theorem s_hcheck : Sound Try.prog 21 C_hcheck :=
  sound_of_eq (env0_ok (.cons s_hRight.hid (.cons s_gCheck.hid (.nil)))) (fun x => T_hcheck x.1 x.2.1) r_hcheck fun x ok hp => p_hcheck x.1 x.2.1 ok.1 ok.2.1
end Go.Fx
