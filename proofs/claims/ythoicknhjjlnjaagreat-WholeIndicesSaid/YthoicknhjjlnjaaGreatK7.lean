/-
  Contracts: hRight, hturned, hminus, hTurned, hPhase, hcheck, hCount.
-/
import Derived.Test.YthoicknhjjlnjaaGreatK6
namespace Go.Fx
open Go Go.Proofs
set_option maxRecDepth 100000
set_option linter.unusedVariables false
set_option linter.unusedSimpArgs false
set_option linter.unusedSectionVars false
noncomputable def C_hRight : Contract := { args := [.agg .vec], res := [.bool], pre := fun _ => True, F := fun x => ((okH x.1 : Bool), ()) }
def T_hRight (h : V3) : Prop :=
  (((decide (h.x < (-512))) = true →
 (false, ()) = (okH h, ())) ∧
((decide (h.x < (-512))) = false →
(((decide (512 < h.x)) = true →
 (false, ()) = (okH h, ())) ∧
((decide (512 < h.x)) = false →
(((decide (h.y < (-512))) = true →
 (false, ()) = (okH h, ())) ∧
((decide (h.y < (-512))) = false →
(((decide (512 < h.y)) = true →
 (false, ()) = (okH h, ())) ∧
((decide (512 < h.y)) = false →
(((decide (h.z < (-512))) = true →
 (false, ()) = (okH h, ())) ∧
((decide (h.z < (-512))) = false →
(((decide (512 < h.z)) = true →
 (false, ()) = (okH h, ())) ∧
((decide (512 < h.z)) = false →
(true, ()) = (okH h, ())))))))))))))
theorem r_hRight (x : HL C_hRight.args) : runs (env0 [] [] []) 400 30 C_hRight x = T_hRight x.1 := by kernel_rfl
theorem p_hRight (h : V3) (h0 : (Sh.agg .vec).okA h) : T_hRight h := by
  simp only [T_hRight, decide_eq_true_eq, decide_eq_false_iff_not]
  repeat' (first | apply And.intro | intro _ | exact trivial)
  all_goals simp only [okH, inE, Prod.mk.injEq, and_true]
  all_goals first | (symm; simp only [Bool.and_eq_true, decide_eq_true_eq]; omega) | (symm; rw [Bool.eq_false_iff]; simp only [ne_eq, Bool.and_eq_true, decide_eq_true_eq]; omega)
theorem s_hRight : Sound Tryz.prog 30 C_hRight :=
  sound_of_eq (env0_ok (.nil)) (fun x => T_hRight x.1) r_hRight fun x ok hp => p_hRight x.1 ok.1
noncomputable def C_hturned : Contract := { args := [.agg .mat, .agg .vec], res := [.agg .vec], pre := fun _ => True, F := fun x => ((tuV x.1 x.2.1 : V3), ()) }
def T_hturned (r : M3) (h : V3) : Prop :=
  ((V3.mk ((w64 (((w64 (((0 + (w64 (h.x * r.xx))) + (w64 (h.y * r.yx))))) + (w64 (h.z * r.zx)))))) ((w64 (((w64 (((0 + (w64 (h.x * r.xy))) + (w64 (h.y * r.yy))))) + (w64 (h.z * r.zy)))))) ((w64 (((w64 (((0 + (w64 (h.x * r.xz))) + (w64 (h.y * r.yz))))) + (w64 (h.z * r.zz))))))), ()) = (tuV r h, ())
theorem r_hturned (x : HL C_hturned.args) : runs (env0 [] [] []) 400 28 C_hturned x = T_hturned x.1 x.2.1 := by kernel_rfl
theorem p_hturned (r : M3) (h : V3) (h0 : (Sh.agg .mat).okA r) (h1 : (Sh.agg .vec).okA h) : T_hturned r h := by
  simp only [T_hturned, tuV, wV, appZ, traZ, Int.zero_add, w64_add_l, w64_add_r, w64_sub_l, w64_sub_r, w64_mul_l, w64_mul_r, w64_w64, Int.mul_comm]
theorem s_hturned : Sound Tryz.prog 28 C_hturned :=
  sound_of_eq (env0_ok (.nil)) (fun x => T_hturned x.1 x.2.1) r_hturned fun x ok hp => p_hturned x.1 x.2.1 ok.1 ok.2.1
noncomputable def C_hminus : Contract := { args := [.agg .vec], res := [.agg .vec], pre := fun _ => True, F := fun x => ((ngV x.1 : V3), ()) }
def T_hminus (h : V3) : Prop :=
  ((V3.mk ((w64 (0 - h.x))) ((w64 (0 - h.y))) ((w64 (0 - h.z)))), ()) = (ngV h, ())
theorem r_hminus (x : HL C_hminus.args) : runs (env0 [] [] []) 400 34 C_hminus x = T_hminus x.1 := by kernel_rfl
theorem p_hminus (h : V3) (h0 : (Sh.agg .vec).okA h) : T_hminus h := by
  simp only [T_hminus, ngV, wV, negV, Int.zero_sub]
theorem s_hminus : Sound Tryz.prog 34 C_hminus :=
  sound_of_eq (env0_ok (.nil)) (fun x => T_hminus x.1) r_hminus fun x ok hp => p_hminus x.1 ok.1
noncomputable def C_hTurned : Contract := { args := [.agg .op, .agg .vec], res := [.agg .vec, .int .i64], pre := fun _ => True, F := fun x => ((htV x.1 x.2.1 : V3), (htE x.1 x.2.1 : Int), ()) }
def T_hTurned (o : Op3) (h : V3) : Prop :=
  (True ∧
∀ z2 : Bool,
(z2 = okH h →
(((!z2) = true →
 ((V3.mk 0 0 0), (1, ())) = (htV o h, (htE o h, ()))) ∧
((!z2) = false →
(True ∧
(True ∧
(((!(decide (mulE oneO o = 0))) = true →
 ((V3.mk 0 0 0), (mulE oneO o, ())) = (htV o h, (htE o h, ()))) ∧
((!(decide (mulE oneO o = 0))) = false →
(True ∧
∀ z6 : V3,
(z6 = tuV o.R h →
(z6, (0, ())) = (htV o h, (htE o h, ()))))))))))))
theorem r_hTurned (x : HL C_hTurned.args) : runs (env0 [(30, C_hRight.hid), (36, C_opOne), (35, C_opMul.hid), (28, C_hturned.hid)] [] []) 400 13 C_hTurned x = T_hTurned x.1 x.2.1 := by kernel_rfl
theorem p_hTurned (o : Op3) (h : V3) (h0 : (Sh.agg .op).okA o) (h1 : (Sh.agg .vec).okA h) : T_hTurned o h := by
  cases hk : okH h <;> by_cases he : errO o = 0 <;> simp [T_hTurned, htV, htE, mulE_one, hk, he]
theorem s_hTurned : Sound Tryz.prog 13 C_hTurned :=
  sound_of_eq (env0_ok (.cons s_hRight.hid (.cons s_opOne (.cons s_opMul.hid (.cons s_hturned.hid (.nil)))))) (fun x => T_hTurned x.1 x.2.1) r_hTurned fun x ok hp => p_hTurned x.1 x.2.1 ok.1 ok.2.1
noncomputable def C_hPhase : Contract := { args := [.agg .op, .agg .vec], res := [.int .i64, .int .i64], pre := fun _ => True, F := fun x => ((hpI x.1 x.2.1 : Int), (htE x.1 x.2.1 : Int), ()) }
def T_hPhase (o : Op3) (h : V3) : Prop :=
  (True ∧
∀ z2 : V3,
(z2 = htV o h →
∀ z4 : Int,
(z4 = htE o h →
(((!(decide (z4 = 0))) = true →
 (0, (z4, ())) = (hpI o h, (htE o h, ()))) ∧
((!(decide (z4 = 0))) = false →
((((Int.tmod ((w64 (((w64 (((w64 (h.x * o.T.x)) + (w64 (h.y * o.T.y))))) + (w64 (h.z * o.T.z)))))) 24) + 24) % 24), (0, ())) = (hpI o h, (htE o h, ())))))))
theorem r_hPhase (x : HL C_hPhase.args) : runs (env0 [(13, C_hTurned.hid)] [] []) 400 12 C_hPhase x = T_hPhase x.1 x.2.1 := by kernel_rfl
theorem p_hPhase (o : Op3) (h : V3) (h0 : (Sh.agg .op).okA o) (h1 : (Sh.agg .vec).okA h) : T_hPhase o h := by
  unfold T_hPhase hpI
  refine ⟨trivial, fun v _ e he => ⟨fun q => ?_, fun q => ?_⟩⟩
  · have : htE o h ≠ 0 := by rw [← he]; simpa using q
    rw [if_neg this, he]
  · have : htE o h = 0 := by rw [← he]; simpa using q
    rw [if_pos this, this, mod24]; rfl
theorem s_hPhase : Sound Tryz.prog 12 C_hPhase :=
  sound_of_eq (env0_ok (.cons s_hTurned.hid (.nil))) (fun x => T_hPhase x.1 x.2.1) r_hPhase fun x ok hp => p_hPhase x.1 x.2.1 ok.1 ok.2.1
noncomputable def C_hcheck : Contract := { args := [.list .op, .agg .vec], res := [.int .i64], pre := fun _ => True, F := fun x => ((hkE x.1 x.2.1 : Int), ()) }
def T_hcheck (g : List Op3) (h : V3) : Prop :=
  (True ∧
∀ z2 : Bool,
(z2 = okH h →
(((!z2) = true →
 (1, ()) = (hkE g h, ())) ∧
((!z2) = false →
(True ∧
∀ z5 : Int,
(z5 = chkE g →
(z5, ()) = (hkE g h, ())))))))
theorem r_hcheck (x : HL C_hcheck.args) : runs (env0 [(30, C_hRight.hid), (41, C_gCheck.hid)] [] []) 400 27 C_hcheck x = T_hcheck x.1 x.2.1 := by kernel_rfl
theorem p_hcheck (g : List Op3) (h : V3) (h0 : (Sh.list .op).okA g) (h1 : (Sh.agg .vec).okA h) : T_hcheck g h := by
  cases hk : okH h <;> simp [T_hcheck, hkE, hk]
theorem s_hcheck : Sound Tryz.prog 27 C_hcheck :=
  sound_of_eq (env0_ok (.cons s_hRight.hid (.cons s_gCheck.hid (.nil)))) (fun x => T_hcheck x.1 x.2.1) r_hcheck fun x ok hp => p_hcheck x.1 x.2.1 ok.1 ok.2.1
noncomputable def C_hCount : Contract := { args := [.list .op, .agg .vec], res := [.int .i64, .int .i64], pre := fun _ => True, F := fun x => ((cntN x.1 x.2.1 : Int), (hkE x.1 x.2.1 : Int), ()) }
def T_hCount (g : List Op3) (h : V3) : Prop :=
  (True ∧
∀ z2 : Bool,
(z2 = okH h →
(((!z2) = true →
 (0, (1, ())) = (cntN g h, (hkE g h, ()))) ∧
((!z2) = false →
(True ∧
∀ z5 : List M3,
(z5 = rotL g →
∀ z7 : Int,
(z7 = chkE g →
(((!(decide (z7 = 0))) = true →
 (0, (z7, ())) = (cntN g h, (hkE g h, ()))) ∧
((!(decide (z7 = 0))) = false →
(ctI h z5 0 0 ∧
∀ z10 : Int,
((decide ((-9223372036854775808) ≤ z10)) = true →
((decide (z10 ≤ 9223372036854775807)) = true →
∀ z13 : Int,
((decide ((-9223372036854775808) ≤ z13)) = true →
((decide (z13 ≤ 9223372036854775807)) = true →
(ctI h z5 z10 z13 →
(((decide (z13 < (z5.length : Int))) = true →
 (inB z5 z13 ∧
 (True ∧
 ((((decide ((tuV ((z5.getD (z13).toNat zerO.R)) h).x = h.x)) && ((decide ((tuV ((z5.getD (z13).toNat zerO.R)) h).y = h.y)) && ((decide ((tuV ((z5.getD (z13).toNat zerO.R)) h).z = h.z)) && true))) = true →
  (ctI h z5 ((w64 (z10 + 1))) ((w64 (z13 + 1))) ∧
  ((decide (0 ≤ ctM z5 ((w64 (z13 + 1))))) = true ∧
  (decide (ctM z5 ((w64 (z13 + 1))) < ctM z5 z13)) = true))) ∧
 (((decide ((tuV ((z5.getD (z13).toNat zerO.R)) h).x = h.x)) && ((decide ((tuV ((z5.getD (z13).toNat zerO.R)) h).y = h.y)) && ((decide ((tuV ((z5.getD (z13).toNat zerO.R)) h).z = h.z)) && true))) = false →
 (ctI h z5 z10 ((w64 (z13 + 1))) ∧
 ((decide (0 ≤ ctM z5 ((w64 (z13 + 1))))) = true ∧
 (decide (ctM z5 ((w64 (z13 + 1))) < ctM z5 z13)) = true))))))) ∧
((decide (z13 < (z5.length : Int))) = false →
(z10, (0, ())) = (cntN g h, (hkE g h, ())))))))))))))))))))
theorem r_hCount (x : HL C_hCount.args) : runs (env0 [(30, C_hRight.hid), (31, C_gRotations.hid), (28, C_hturned)] [(9, 8, { fix := [(.tmp 22, .list .mat), (.cell 3, .agg .vec)], vars := [(.tmp 8, .int .i64), (.tmp 24, .int .i64)], inv := fun y v => ctI y.2.1 y.1 v.1 v.2.1, mu := fun y v => ctM y.1 v.2.1 })] []) 400 9 C_hCount x = T_hCount x.1 x.2.1 := by kernel_rfl
theorem p_hCount (g : List Op3) (h : V3) (h0 : (Sh.list .op).okA g) (h1 : (Sh.agg .vec).okA h) : T_hCount g h := by
  unfold T_hCount
  refine ⟨trivial, fun z2 w2 => ⟨fun q => ?_, fun q => ⟨trivial, fun m wm z7 w7 => ⟨fun q2 => ?_, fun q2 => ⟨ct_init h m, fun n _ _ i _ _ hI => ⟨fun hi => ?_, fun hi => ?_⟩⟩⟩⟩⟩⟩
  · have hk : ¬ okH h = true := by rw [← w2]; simpa using q
    have e : hkE g h = 1 := by unfold hkE; rw [if_neg hk]
    rw [e, show cntN g h = 0 from by unfold cntN; rw [if_neg (by rw [e]; decide)]]
  · have hk : okH h = true := by rw [← w2]; simpa using q
    have e : hkE g h = z7 := by unfold hkE; rw [if_pos hk]; exact w7.symm
    have hne : z7 ≠ 0 := by simpa using q2
    rw [e, show cntN g h = 0 from by unfold cntN; rw [if_neg (by rw [e]; exact hne)]]
  · have hi := of_decide_eq_true hi
    have i0 := hI.1.1
    have hg : chkE g = 0 := by rw [← w7]; simpa using q2
    have h192 := chk_len hg
    have hml : (m.length : Int) ≤ 192 := by have := rotL_len g; rw [← wm] at this; omega
    have hn := ct_bnd hI
    have e1 : w64 (i + 1) = i + 1 := w64_id (by omega) (by omega)
    have e2 : w64 (n + 1) = n + 1 := w64_id (by omega) (by omega)
    obtain ⟨n1, n2⟩ := ct_next hI hi zerO.R
    have m1 : decide (0 ≤ ctM m (i + 1)) = true := decide_eq_true (by unfold ctM; omega)
    have m2 : decide (ctM m (i + 1) < ctM m i) = true := decide_eq_true (by unfold ctM; omega)
    rw [e1, e2, eqVc]
    exact ⟨⟨i0, hi⟩, trivial, fun q => ⟨n1 (of_decide_eq_true q), m1, m2⟩, fun q => ⟨n2 (of_decide_eq_false q), m1, m2⟩⟩
  · have hk : okH h = true := by rw [← w2]; simpa using q
    have hg : chkE g = 0 := by rw [← w7]; simpa using q2
    have e : hkE g h = 0 := by unfold hkE; rw [if_pos hk]; exact hg
    rw [ct_end hI (of_decide_eq_false hi), e, wm, show cntN g h = _ from by unfold cntN; rw [if_pos e]]
theorem s_hCount : Sound Tryz.prog 9 C_hCount :=
  sound_of_eq (env0_ok (.cons s_hRight.hid (.cons s_gRotations.hid (.cons s_hturned (.nil))))) (fun x => T_hCount x.1 x.2.1) r_hCount fun x ok hp => p_hCount x.1 x.2.1 ok.1 ok.2.1
end Go.Fx
