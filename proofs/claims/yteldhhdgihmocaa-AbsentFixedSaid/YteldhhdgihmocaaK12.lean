/-
  Contracts: r3Mod, r14Index, r14check, r14Turned, r14Phase, r14why, r14Absent, r14DocIs, r14DocCentric, r14DocWhy, r14Same.
-/
import Derived.Test.YteldhhdgihmocaaK11
namespace Go.Fx
open Go Go.Proofs
set_option maxRecDepth 100000
set_option linter.unusedVariables false
set_option linter.unusedSimpArgs false
set_option linter.unusedSectionVars false
noncomputable def C_r3Mod : Contract := { args := [.int .i64, .int .i64], res := [.int .i64], pre := fun x => inM x.2.1, F := fun x => ((emo x.1 x.2.1 : Int), ()) }
def T_r3Mod (n : Int) (m : Int) : Prop :=
  ((m ≠ 0) ∧
((m ≠ 0) ∧
((Int.tmod ((w64 (((Int.tmod n m) + m)))) m), ()) = (emo n m, ())))
theorem r_r3Mod (x : HL C_r3Mod.args) : runs (env0 [] [] []) 400 24 C_r3Mod x = T_r3Mod x.1 x.2.1 := by kernel_rfl
theorem p_r3Mod (n : Int) (m : Int) (h0 : (Sh.int .i64).okA n) (h1 : (Sh.int .i64).okA m) (hp : inM m) : T_r3Mod n m := by
  obtain ⟨e1, e2, e3⟩ := fmod_eq (n := n) hp
  unfold T_r3Mod emo
  rw [e1, e2]
  exact ⟨e3, e3, rfl⟩
theorem s_r3Mod : Sound Try.prog 24 C_r3Mod :=
  sound_of_eq (env0_ok (.nil)) (fun x => T_r3Mod x.1 x.2.1) r_r3Mod fun x ok hp => p_r3Mod x.1 x.2.1 ok.1 ok.2.1 hp
noncomputable def C_r14Index : Contract := { args := [.agg .vec], res := [.int .i64], pre := fun _ => True, F := fun x => ((ixE x.1 : Int), ()) }
def T_r14Index (h : V3) : Prop :=
  (((decide (h.x < (-512))) = true →
 (1, ()) = (ixE h, ())) ∧
((decide (h.x < (-512))) = false →
(((decide (512 < h.x)) = true →
 (1, ()) = (ixE h, ())) ∧
((decide (512 < h.x)) = false →
(((decide (h.y < (-512))) = true →
 (1, ()) = (ixE h, ())) ∧
((decide (h.y < (-512))) = false →
(((decide (512 < h.y)) = true →
 (1, ()) = (ixE h, ())) ∧
((decide (512 < h.y)) = false →
(((decide (h.z < (-512))) = true →
 (1, ()) = (ixE h, ())) ∧
((decide (h.z < (-512))) = false →
(((decide (512 < h.z)) = true →
 (1, ()) = (ixE h, ())) ∧
((decide (512 < h.z)) = false →
(0, ()) = (ixE h, ())))))))))))))
theorem r_r14Index (x : HL C_r14Index.args) : runs (env0 [] [] []) 400 40 C_r14Index x = T_r14Index x.1 := by kernel_rfl
theorem p_r14Index (h : V3) (h0 : (Sh.agg .vec).okA h) : T_r14Index h := by
  simp only [T_r14Index, decide_eq_true_eq, decide_eq_false_iff_not]
  repeat' (first | apply And.intro | intro _ | exact trivial)
  all_goals first | (unfold ixE; rw [if_neg (by simp only [okH, inE, Bool.and_eq_true, decide_eq_true_eq]; omega)]) | (unfold ixE; rw [if_pos (by simp only [okH, inE, Bool.and_eq_true, decide_eq_true_eq]; omega)])
theorem s_r14Index : Sound Try.prog 40 C_r14Index :=
  sound_of_eq (env0_ok (.nil)) (fun x => T_r14Index x.1) r_r14Index fun x ok hp => p_r14Index x.1 ok.1
noncomputable def C_r14check : Contract := { args := [.list .op, .agg .vec], res := [.int .i64], pre := fun _ => True, F := fun x => ((isE x.1 x.2.1 : Int), ()) }
def T_r14check (g : List Op3) (h : V3) : Prop :=
  (True ∧
∀ z2 : Int,
(z2 = ixE h →
(((!(decide (z2 = 0))) = true →
 (1, ()) = (isE g h, ())) ∧
((!(decide (z2 = 0))) = false →
(True ∧
∀ z5 : Int,
(z5 = chkE g →
(z5, ()) = (isE g h, ())))))))
theorem r_r14check (x : HL C_r14check.args) : runs (env0 [(40, C_r14Index.hid), (39, C_r5DocCheck.hid)] [] []) 400 32 C_r14check x = T_r14check x.1 x.2.1 := by kernel_rfl
theorem p_r14check (g : List Op3) (h : V3) (h0 : (Sh.list .op).okA g) (h1 : (Sh.agg .vec).okA h) : T_r14check g h := by
  cases hk : okH h <;> simp [T_r14check, isE, hkE, ixE, hk]
theorem s_r14check : Sound Try.prog 32 C_r14check :=
  sound_of_eq (env0_ok (.cons s_r14Index.hid (.cons s_r5DocCheck.hid (.nil)))) (fun x => T_r14check x.1 x.2.1) r_r14check fun x ok hp => p_r14check x.1 x.2.1 ok.1 ok.2.1
noncomputable def C_r14Turned : Contract := { args := [.agg .op, .agg .vec], res := [.agg .vec], pre := fun _ => True, F := fun x => ((tuV x.1.R x.2.1 : V3), ()) }
def T_r14Turned (o : Op3) (h : V3) : Prop :=
  ((V3.mk ((w64 (((w64 (((0 + (w64 (h.x * o.R.xx))) + (w64 (h.y * o.R.yx))))) + (w64 (h.z * o.R.zx)))))) ((w64 (((w64 (((0 + (w64 (h.x * o.R.xy))) + (w64 (h.y * o.R.yy))))) + (w64 (h.z * o.R.zy)))))) ((w64 (((w64 (((0 + (w64 (h.x * o.R.xz))) + (w64 (h.y * o.R.yz))))) + (w64 (h.z * o.R.zz))))))), ()) = (tuV o.R h, ())
theorem r_r14Turned (x : HL C_r14Turned.args) : runs (env0 [] [] []) 400 37 C_r14Turned x = T_r14Turned x.1 x.2.1 := by kernel_rfl
theorem p_r14Turned (o : Op3) (h : V3) (h0 : (Sh.agg .op).okA o) (h1 : (Sh.agg .vec).okA h) : T_r14Turned o h := by
  simp only [T_r14Turned, tuV, wV, appZ, traZ, Int.zero_add, w64_add_l, w64_add_r, w64_sub_l, w64_sub_r, w64_mul_l, w64_mul_r, w64_w64, Int.mul_comm]
theorem s_r14Turned : Sound Try.prog 37 C_r14Turned :=
  sound_of_eq (env0_ok (.nil)) (fun x => T_r14Turned x.1 x.2.1) r_r14Turned fun x ok hp => p_r14Turned x.1 x.2.1 ok.1 ok.2.1
noncomputable def C_r14Phase : Contract := { args := [.agg .op, .agg .vec], res := [.int .i64], pre := fun _ => True, F := fun x => ((phW x.1 x.2.1 : Int), ()) }
def T_r14Phase (o : Op3) (h : V3) : Prop :=
  (inM 24 ∧
(emo ((w64 (((w64 (((w64 (h.x * o.T.x)) + (w64 (h.y * o.T.y))))) + (w64 (h.z * o.T.z)))))) 24, ()) = (phW o h, ()))
theorem r_r14Phase (x : HL C_r14Phase.args) : runs (env0 [(24, C_r3Mod)] [] []) 400 38 C_r14Phase x = T_r14Phase x.1 x.2.1 := by kernel_rfl
theorem p_r14Phase (o : Op3) (h : V3) (h0 : (Sh.agg .op).okA o) (h1 : (Sh.agg .vec).okA h) : T_r14Phase o h := by
  exact ⟨⟨by decide, by decide⟩, rfl⟩
theorem s_r14Phase : Sound Try.prog 38 C_r14Phase :=
  sound_of_eq (env0_ok (.cons s_r3Mod (.nil))) (fun x => T_r14Phase x.1 x.2.1) r_r14Phase fun x ok hp => p_r14Phase x.1 x.2.1 ok.1 ok.2.1
noncomputable def C_r14why : Contract := { args := [.list .op, .agg .vec], res := [.int .i64], pre := fun _ => True, F := fun x => ((whyI x.1 x.2.1 : Int), ()) }
def T_r14why (g : List Op3) (h : V3) : Prop :=
  (fsA g h 0 ∧
∀ z2 : Int,
((decide ((-9223372036854775808) ≤ z2)) = true →
((decide (z2 ≤ 9223372036854775807)) = true →
(fsA g h z2 →
(((decide (z2 < (g.length : Int))) = true →
 (inB g z2 ∧
 (True ∧
 ((((decide ((tuV (((g.getD (z2).toNat zerO)).R) h).x = h.x)) && ((decide ((tuV (((g.getD (z2).toNat zerO)).R) h).y = h.y)) && ((decide ((tuV (((g.getD (z2).toNat zerO)).R) h).z = h.z)) && true))) = true →
  (True ∧
  (((!(decide (phW (((g.getD (z2).toNat zerO))) h = 0))) = true →
   (z2, ()) = (whyI g h, ())) ∧
  ((!(decide (phW (((g.getD (z2).toNat zerO))) h = 0))) = false →
  (fsA g h ((w64 (z2 + 1))) ∧
  ((decide (0 ≤ opMu g ((w64 (z2 + 1))))) = true ∧
  (decide (opMu g ((w64 (z2 + 1))) < opMu g z2)) = true)))))) ∧
 (((decide ((tuV (((g.getD (z2).toNat zerO)).R) h).x = h.x)) && ((decide ((tuV (((g.getD (z2).toNat zerO)).R) h).y = h.y)) && ((decide ((tuV (((g.getD (z2).toNat zerO)).R) h).z = h.z)) && true))) = false →
 (fsA g h ((w64 (z2 + 1))) ∧
 ((decide (0 ≤ opMu g ((w64 (z2 + 1))))) = true ∧
 (decide (opMu g ((w64 (z2 + 1))) < opMu g z2)) = true))))))) ∧
((decide (z2 < (g.length : Int))) = false →
((-1), ()) = (whyI g h, ())))))))
theorem r_r14why (x : HL C_r14why.args) : runs (env0 [(37, C_r14Turned.hid), (38, C_r14Phase.hid)] [(34, 2, { fix := [(.tmp 7, .list .op), (.cell 3, .agg .vec)], vars := [(.tmp 9, .int .i64)], inv := fun y v => fsA y.1 y.2.1 v.1, mu := fun y v => opMu y.1 v.1 })] []) 400 34 C_r14why x = T_r14why x.1 x.2.1 := by kernel_rfl
theorem p_r14why (g : List Op3) (h : V3) (h0 : (Sh.list .op).okA g) (h1 : (Sh.agg .vec).okA h) : T_r14why g h := by
  have hb : g.length * 96 ≤ room := h0.2
  refine ⟨fs_init _ _, fun i _ _ hI => ⟨fun hi => ?_, fun hi => ?_⟩⟩
  · have hi := of_decide_eq_true hi
    have i0 := hI.1
    obtain ⟨e1, e2, e3⟩ := opMu_next hb i0 hi
    have nx : absB (g.getD i.toNat zerO) h = false → fsA g h (w64 (i + 1)) ∧ (decide (0 ≤ opMu g (w64 (i + 1))) = true ∧ decide (opMu g (w64 (i + 1)) < opMu g i) = true) := fun hf => ⟨by rw [e1]; exact fs_next hI hi (d := zerO) hf, e2, e3⟩
    rw [eqVc]
    refine ⟨⟨i0, hi⟩, trivial, fun c1 => ⟨trivial, fun c2 => ?_, fun c2 => nx ?_⟩, fun c1 => nx ?_⟩
    · have hit : absB (g.getD i.toNat zerO) h = true := by unfold absB; rw [c1]; exact c2
      rw [show whyI g h = i from fs_hit hI hi (d := zerO) hit]
    · unfold absB; rw [c1]; exact c2
    · unfold absB; rw [c1]; rfl
  · rw [show whyI g h = -1 from fs_miss hI (of_decide_eq_false hi)]
theorem s_r14why : Sound Try.prog 34 C_r14why :=
  sound_of_eq (env0_ok (.cons s_r14Turned.hid (.cons s_r14Phase.hid (.nil)))) (fun x => T_r14why x.1 x.2.1) r_r14why fun x ok hp => p_r14why x.1 x.2.1 ok.1 ok.2.1
noncomputable def C_r14Absent : Contract := { args := [.list .op, .agg .vec], res := [.bool], pre := fun _ => True, F := fun x => ((whyB x.1 x.2.1 : Bool), ()) }
def T_r14Absent (g : List Op3) (h : V3) : Prop :=
  (True ∧
∀ z2 : Int,
(z2 = whyI g h →
((decide (0 ≤ z2)), ()) = (whyB g h, ())))
theorem r_r14Absent (x : HL C_r14Absent.args) : runs (env0 [(34, C_r14why.hid)] [] []) 400 33 C_r14Absent x = T_r14Absent x.1 x.2.1 := by kernel_rfl
theorem p_r14Absent (g : List Op3) (h : V3) (h0 : (Sh.list .op).okA g) (h1 : (Sh.agg .vec).okA h) : T_r14Absent g h := by
  exact ⟨trivial, fun z hz => by rw [hz]; rfl⟩
theorem s_r14Absent : Sound Try.prog 33 C_r14Absent :=
  sound_of_eq (env0_ok (.cons s_r14why.hid (.nil))) (fun x => T_r14Absent x.1 x.2.1) r_r14Absent fun x ok hp => p_r14Absent x.1 x.2.1 ok.1 ok.2.1
noncomputable def C_r14DocIs : Contract := { args := [.list .op, .agg .vec], res := [.bool, .int .i64], pre := fun _ => True, F := fun x => ((isB x.1 x.2.1 : Bool), (isE x.1 x.2.1 : Int), ()) }
def T_r14DocIs (g : List Op3) (h : V3) : Prop :=
  (True ∧
∀ z2 : Int,
(z2 = isE g h →
(((!(decide (z2 = 0))) = true →
 (false, (z2, ())) = (isB g h, (isE g h, ()))) ∧
((!(decide (z2 = 0))) = false →
(True ∧
∀ z5 : Bool,
(z5 = whyB g h →
(z5, (0, ())) = (isB g h, (isE g h, ()))))))))
theorem r_r14DocIs (x : HL C_r14DocIs.args) : runs (env0 [(32, C_r14check.hid), (33, C_r14Absent.hid)] [] []) 400 12 C_r14DocIs x = T_r14DocIs x.1 x.2.1 := by kernel_rfl
theorem p_r14DocIs (g : List Op3) (h : V3) (h0 : (Sh.list .op).okA g) (h1 : (Sh.agg .vec).okA h) : T_r14DocIs g h := by
  unfold T_r14DocIs isB isE
  refine ⟨trivial, fun e he => ⟨fun q => ?_, fun q => ?_⟩⟩
  · have hne : hkE g h ≠ 0 := by rw [← he]; simpa using q
    rw [if_neg hne, he]
  · have hz : hkE g h = 0 := by rw [← he]; simpa using q
    rw [if_pos hz, hz]
    exact ⟨trivial, fun b hb => by rw [hb]⟩
theorem s_r14DocIs : Sound Try.prog 12 C_r14DocIs :=
  sound_of_eq (env0_ok (.cons s_r14check.hid (.cons s_r14Absent.hid (.nil)))) (fun x => T_r14DocIs x.1 x.2.1) r_r14DocIs fun x ok hp => p_r14DocIs x.1 x.2.1 ok.1 ok.2.1
noncomputable def C_r14DocCentric : Contract := { args := [.list .op, .agg .vec], res := [.int .i64, .bool, .int .i64], pre := fun _ => True, F := fun x => ((ceI x.1 x.2.1 : Int), (ceB x.1 x.2.1 : Bool), (isE x.1 x.2.1 : Int), ()) }
def T_r14DocCentric (g : List Op3) (h : V3) : Prop :=
  (True ∧
∀ z2 : Int,
(z2 = isE g h →
(((!(decide (z2 = 0))) = true →
 (0, (false, (z2, ()))) = (ceI g h, (ceB g h, (isE g h, ())))) ∧
((!(decide (z2 = 0))) = false →
(fsC g h 0 ∧
∀ z5 : Int,
((decide ((-9223372036854775808) ≤ z5)) = true →
((decide (z5 ≤ 9223372036854775807)) = true →
(fsC g h z5 →
(((decide (z5 < (g.length : Int))) = true →
 (inB g z5 ∧
 (True ∧
 ∀ z10 : V3,
 (z10 = tuV (((g.getD (z5).toNat zerO)).R) h →
 (((decide (z10.x = (w64 (0 - h.x)))) = true →
  (((decide (z10.y = (w64 (0 - h.y)))) = true →
   (((decide (z10.z = (w64 (0 - h.z)))) = true →
    (True ∧
    ∀ z15 : Int,
    (z15 = phW (((g.getD (z5).toNat zerO))) h →
    (z15, (true, (0, ()))) = (ceI g h, (ceB g h, (isE g h, ())))))) ∧
   ((decide (z10.z = (w64 (0 - h.z)))) = false →
   (fsC g h ((w64 (z5 + 1))) ∧
   ((decide (0 ≤ opMu g ((w64 (z5 + 1))))) = true ∧
   (decide (opMu g ((w64 (z5 + 1))) < opMu g z5)) = true))))) ∧
  ((decide (z10.y = (w64 (0 - h.y)))) = false →
  (fsC g h ((w64 (z5 + 1))) ∧
  ((decide (0 ≤ opMu g ((w64 (z5 + 1))))) = true ∧
  (decide (opMu g ((w64 (z5 + 1))) < opMu g z5)) = true))))) ∧
 ((decide (z10.x = (w64 (0 - h.x)))) = false →
 (fsC g h ((w64 (z5 + 1))) ∧
 ((decide (0 ≤ opMu g ((w64 (z5 + 1))))) = true ∧
 (decide (opMu g ((w64 (z5 + 1))) < opMu g z5)) = true)))))))) ∧
((decide (z5 < (g.length : Int))) = false →
(0, (false, (0, ()))) = (ceI g h, (ceB g h, (isE g h, ())))))))))))))
theorem r_r14DocCentric (x : HL C_r14DocCentric.args) : runs (env0 [(32, C_r14check.hid), (37, C_r14Turned.hid), (38, C_r14Phase.hid)] [(16, 5, { fix := [(.tmp 17, .list .op), (.cell 3, .agg .vec)], vars := [(.tmp 19, .int .i64)], inv := fun y v => fsC y.1 y.2.1 v.1, mu := fun y v => opMu y.1 v.1 })] []) 400 16 C_r14DocCentric x = T_r14DocCentric x.1 x.2.1 := by kernel_rfl
theorem p_r14DocCentric (g : List Op3) (h : V3) (h0 : (Sh.list .op).okA g) (h1 : (Sh.agg .vec).okA h) : T_r14DocCentric g h := by
  have hb : g.length * 96 ≤ room := h0.2
  unfold T_r14DocCentric ceI ceB isE
  refine ⟨trivial, fun e he => ⟨fun q => ?_, fun q => ⟨fs_init _ _, fun i _ _ hI => ⟨fun hi => ?_, fun hi => ?_⟩⟩⟩⟩
  · have hne : hkE g h ≠ 0 := by rw [← he]; simpa using q
    rw [if_neg (fun c => hne c.1), if_neg hne, he]
  · have hz : hkE g h = 0 := by rw [← he]; simpa using q
    have hi := of_decide_eq_true hi
    have i0 := hI.1
    obtain ⟨e1, e2, e3⟩ := opMu_next hb i0 hi
    have hng : V3.mk (w64 (0 - h.x)) (w64 (0 - h.y)) (w64 (0 - h.z)) = ngV h := by simp only [ngV, wV, negV, Int.zero_sub]
    refine ⟨⟨i0, hi⟩, trivial, fun v hv => ?_⟩
    have ec : cenB (g.getD i.toNat zerO) h = ((decide (v.x = (w64 (0 - h.x)))) && ((decide (v.y = (w64 (0 - h.y)))) && ((decide (v.z = (w64 (0 - h.z)))) && true))) := by
      rw [show ((decide (v.x = (w64 (0 - h.x)))) && ((decide (v.y = (w64 (0 - h.y)))) && ((decide (v.z = (w64 (0 - h.z)))) && true))) = decide (v = V3.mk (w64 (0 - h.x)) (w64 (0 - h.y)) (w64 (0 - h.z))) from eqVc v (V3.mk (w64 (0 - h.x)) (w64 (0 - h.y)) (w64 (0 - h.z))), hng, hv]; rfl
    have nx : cenB (g.getD i.toNat zerO) h = false → fsC g h (w64 (i + 1)) ∧ (decide (0 ≤ opMu g (w64 (i + 1))) = true ∧ decide (opMu g (w64 (i + 1)) < opMu g i) = true) := fun hf => ⟨by rw [e1]; exact fs_next hI hi (d := zerO) hf, e2, e3⟩
    refine ⟨fun c1 => ⟨fun c2 => ⟨fun c3 => ⟨trivial, fun w hw => ?_⟩, fun c3 => nx (by rw [ec, c1, c2, c3]; rfl)⟩, fun c2 => nx (by rw [ec, c1, c2]; rfl)⟩, fun c1 => nx (by rw [ec, c1]; rfl)⟩
    have hw' : cenJ g h = i := fs_hit hI hi (d := zerO) (by show cenB _ h = true; rw [ec, c1, c2, c3]; rfl)
    rw [if_pos hz, if_pos ⟨hz, by rw [hw']; exact i0⟩, hz, hw', decide_eq_true i0, hw]
  · have hz : hkE g h = 0 := by rw [← he]; simpa using q
    have hw : cenJ g h = -1 := fs_miss hI (of_decide_eq_false hi)
    rw [if_pos hz, hw, hz]; rfl
theorem s_r14DocCentric : Sound Try.prog 16 C_r14DocCentric :=
  sound_of_eq (env0_ok (.cons s_r14check.hid (.cons s_r14Turned.hid (.cons s_r14Phase.hid (.nil))))) (fun x => T_r14DocCentric x.1 x.2.1) r_r14DocCentric fun x ok hp => p_r14DocCentric x.1 x.2.1 ok.1 ok.2.1
noncomputable def C_r14DocWhy : Contract := { args := [.list .op, .agg .vec], res := [.agg .op, .int .i64], pre := fun _ => True, F := fun x => ((wyO x.1 x.2.1 : Op3), (wyE x.1 x.2.1 : Int), ()) }
def T_r14DocWhy (g : List Op3) (h : V3) : Prop :=
  (True ∧
∀ z2 : Int,
(z2 = isE g h →
(((!(decide (z2 = 0))) = true →
 (zerO, (z2, ())) = (wyO g h, (wyE g h, ()))) ∧
((!(decide (z2 = 0))) = false →
(True ∧
∀ z5 : Int,
(z5 = whyI g h →
(((decide (z5 < 0)) = true →
 (zerO, (9, ())) = (wyO g h, (wyE g h, ()))) ∧
((decide (z5 < 0)) = false →
(inB g z5 ∧
(((g.getD (z5).toNat zerO)), (0, ())) = (wyO g h, (wyE g h, ())))))))))))
theorem r_r14DocWhy (x : HL C_r14DocWhy.args) : runs (env0 [(32, C_r14check.hid), (34, C_r14why.hid)] [] []) 400 14 C_r14DocWhy x = T_r14DocWhy x.1 x.2.1 := by kernel_rfl
theorem p_r14DocWhy (g : List Op3) (h : V3) (h0 : (Sh.list .op).okA g) (h1 : (Sh.agg .vec).okA h) : T_r14DocWhy g h := by
  unfold T_r14DocWhy wyO wyE isE
  refine ⟨trivial, fun e he => ⟨fun q => ?_, fun q => ?_⟩⟩
  · have hne : hkE g h ≠ 0 := by rw [← he]; simpa using q
    rw [if_neg hne, if_neg hne, he]
  · have hz : hkE g h = 0 := by rw [← he]; simpa using q
    rw [if_pos hz]
    refine ⟨trivial, fun k hk => ⟨fun c => ?_, fun c => ?_⟩⟩
    · have : whyB g h = false := decide_eq_false (by rw [← hk]; have := of_decide_eq_true c; omega)
      rw [this]; rfl
    · have c := of_decide_eq_false c
      have c' : 0 ≤ whyI g h := by rw [← hk]; omega
      have hB : whyB g h = true := decide_eq_true c'
      have hlt : whyI g h < (g.length : Int) := by
        rcases fst_cases (fun o => absB o h) g with ⟨q, _⟩ | ⟨_, q, _⟩
        · have q : whyI g h = -1 := q
          omega
        · exact q
      rw [hB, hk]
      refine ⟨⟨c', hlt⟩, ?_⟩
      show _ = (whyO g h, ((0 : Int), ()))
      unfold whyO
      rw [if_pos c']
theorem s_r14DocWhy : Sound Try.prog 14 C_r14DocWhy :=
  sound_of_eq (env0_ok (.cons s_r14check.hid (.cons s_r14why.hid (.nil)))) (fun x => T_r14DocWhy x.1 x.2.1) r_r14DocWhy fun x ok hp => p_r14DocWhy x.1 x.2.1 ok.1 ok.2.1
noncomputable def C_r14Same : Contract := { args := [.list .vec, .list .vec], res := [.bool], pre := fun _ => True, F := fun x => ((smV x.1 x.2.1 : Bool), ()) }
def T_r14Same (a : List V3) (b : List V3) : Prop :=
  (((!(decide ((a.length : Int) = (b.length : Int)))) = true →
 (false, ()) = (smV a b, ())) ∧
((!(decide ((a.length : Int) = (b.length : Int)))) = false →
(smVi a b 0 ∧
∀ z3 : Int,
((decide ((-9223372036854775808) ≤ z3)) = true →
((decide (z3 ≤ 9223372036854775807)) = true →
(smVi a b z3 →
(((decide (z3 < (a.length : Int))) = true →
 (inB a z3 ∧
 (inB b z3 ∧
 (((!((decide (((a.getD (z3).toNat (V3.mk 0 0 0))).x = ((b.getD (z3).toNat (V3.mk 0 0 0))).x)) && ((decide (((a.getD (z3).toNat (V3.mk 0 0 0))).y = ((b.getD (z3).toNat (V3.mk 0 0 0))).y)) && ((decide (((a.getD (z3).toNat (V3.mk 0 0 0))).z = ((b.getD (z3).toNat (V3.mk 0 0 0))).z)) && true)))) = true →
  (false, ()) = (smV a b, ())) ∧
 ((!((decide (((a.getD (z3).toNat (V3.mk 0 0 0))).x = ((b.getD (z3).toNat (V3.mk 0 0 0))).x)) && ((decide (((a.getD (z3).toNat (V3.mk 0 0 0))).y = ((b.getD (z3).toNat (V3.mk 0 0 0))).y)) && ((decide (((a.getD (z3).toNat (V3.mk 0 0 0))).z = ((b.getD (z3).toNat (V3.mk 0 0 0))).z)) && true)))) = false →
 (smVi a b ((w64 (z3 + 1))) ∧
 ((decide (0 ≤ lnV a ((w64 (z3 + 1))))) = true ∧
 (decide (lnV a ((w64 (z3 + 1))) < lnV a z3)) = true))))))) ∧
((decide (z3 < (a.length : Int))) = false →
(true, ()) = (smV a b, ())))))))))
theorem r_r14Same (x : HL C_r14Same.args) : runs (env0 [] [(19, 4, { fix := [(.tmp 0, .list .vec), (.tmp 1, .list .vec)], vars := [(.tmp 13, .int .i64)], inv := fun y v => smVi y.1 y.2.1 v.1, mu := fun y v => lnV y.1 v.1 })] []) 400 19 C_r14Same x = T_r14Same x.1 x.2.1 := by kernel_rfl
theorem p_r14Same (a : List V3) (b : List V3) (h0 : (Sh.list .vec).okA a) (h1 : (Sh.list .vec).okA b) : T_r14Same a b := by
  have hb : a.length * 24 ≤ 140737488355328 := h0.2
  unfold T_r14Same smV
  refine ⟨fun h => ?_, fun h => ?_⟩
  · have : a ≠ b := fun e => by rw [e] at h; simp at h
    rw [decide_eq_false this]
  have hl : a.length = b.length := by have : (a.length : Int) = b.length := by simpa using h
                                      omega
  refine ⟨⟨hl, by omega, by omega, fun k hk => by simp at hk⟩, fun i _ _ hI => ⟨fun hi => ?_, fun hi => ?_⟩⟩
  · have hi := of_decide_eq_true hi
    have i0 : 0 ≤ i := hI.2.1
    have e1 : w64 (i + 1) = i + 1 := w64_id (by omega) (by omega)
    rw [eqVc, e1]
    refine ⟨⟨i0, hi⟩, ⟨i0, by omega⟩, fun h1 => ?_, fun h1 => ⟨sm_next hI hi (by simpa using h1), decide_eq_true (by unfold lnV; omega), decide_eq_true (by unfold lnV; omega)⟩⟩
    rw [decide_eq_false (sm_ne (by simpa using h1))]
  · rw [decide_eq_true (sm_end hI (of_decide_eq_false hi))]
theorem s_r14Same : Sound Try.prog 19 C_r14Same :=
  sound_of_eq (env0_ok (.nil)) (fun x => T_r14Same x.1 x.2.1) r_r14Same fun x ok hp => p_r14Same x.1 x.2.1 ok.1 ok.2.1
end Go.Fx
