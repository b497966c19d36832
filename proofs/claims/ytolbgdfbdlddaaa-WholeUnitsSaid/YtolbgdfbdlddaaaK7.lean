/-
  Contracts: usides, uleast, r10Sides, r10Least, r3Mod, r3Det, r3Within, r3Part, r3Check.
-/
import Derived.Test.YtolbgdfbdlddaaaK6
namespace Go.Fx
open Go Go.Proofs
set_option maxRecDepth 100000
set_option linter.unusedVariables false
set_option linter.unusedSimpArgs false
set_option linter.unusedSectionVars false
noncomputable def C_usides : Contract := { args := [.agg .vec], res := [.int .i64], pre := fun _ => True, F := fun x => ((sidE x.1 : Int), ()) }
def T_usides (n : V3) : Prop :=
  (((decide (n.x < 1)) = true →
 (1, ()) = (sidE n, ())) ∧
((decide (n.x < 1)) = false →
(((decide (192 < n.x)) = true →
 (1, ()) = (sidE n, ())) ∧
((decide (192 < n.x)) = false →
(((decide (n.y < 1)) = true →
 (1, ()) = (sidE n, ())) ∧
((decide (n.y < 1)) = false →
(((decide (192 < n.y)) = true →
 (1, ()) = (sidE n, ())) ∧
((decide (192 < n.y)) = false →
(((decide (n.z < 1)) = true →
 (1, ()) = (sidE n, ())) ∧
((decide (n.z < 1)) = false →
(((decide (192 < n.z)) = true →
 (1, ()) = (sidE n, ())) ∧
((decide (192 < n.z)) = false →
(((decide (262144 < (w64 (((w64 (n.x * n.y)) * n.z))))) = true →
 (2, ()) = (sidE n, ())) ∧
((decide (262144 < (w64 (((w64 (n.x * n.y)) * n.z))))) = false →
(0, ()) = (sidE n, ())))))))))))))))
theorem r_usides (x : HL C_usides.args) : runs (env0 [] [] []) 400 45 C_usides x = T_usides x.1 := by kernel_rfl
theorem p_usides (n : V3) (h0 : (Sh.agg .vec).okA n) : T_usides n := by
  unfold T_usides sidE
  refine ⟨fun h => ?_, fun h1 => ⟨fun h => ?_, fun h2 => ⟨fun h => ?_, fun h3 => ⟨fun h => ?_, fun h4 => ⟨fun h => ?_, fun h5 => ⟨fun h => ?_, fun h6 => ?_⟩⟩⟩⟩⟩⟩
  iterate 6
    · rw [if_neg (fun c => by simp only [sidB, Bool.and_eq_true, decide_eq_true_eq] at c; have := of_decide_eq_true h; omega)]
  have h1 := of_decide_eq_false h1
  have h2 := of_decide_eq_false h2
  have h3 := of_decide_eq_false h3
  have h4 := of_decide_eq_false h4
  have h5 := of_decide_eq_false h5
  have h6 := of_decide_eq_false h6
  have hb : sidB n = true := by
    simp only [sidB, Bool.and_eq_true, decide_eq_true_eq]
    omega
  obtain ⟨w1, w2⟩ := sid_prod hb
  rw [w1, w2, if_pos hb]
  exact ⟨fun h => by rw [if_pos (of_decide_eq_true h)], fun h => by rw [if_neg (of_decide_eq_false h)]⟩
theorem s_usides : Sound Try.prog 45 C_usides :=
  sound_of_eq (env0_ok (.nil)) (fun x => T_usides x.1) r_usides fun x ok hp => p_usides x.1 ok.1
noncomputable def C_uleast : Contract := { args := [.int .i64, .int .i64], res := [.int .i64], pre := fun _ => True, F := fun x => ((lsE x.1 x.2.1 : Int), ()) }
def T_uleast (e : Int) (f : Int) : Prop :=
  (((decide (e = 0)) = true →
 (f, ()) = (lsE e f, ())) ∧
((decide (e = 0)) = false →
(((!(decide (f = 0))) = true →
 (((decide (f < e)) = true →
  (f, ()) = (lsE e f, ())) ∧
 ((decide (f < e)) = false →
 (e, ()) = (lsE e f, ())))) ∧
((!(decide (f = 0))) = false →
(e, ()) = (lsE e f, ())))))
theorem r_uleast (x : HL C_uleast.args) : runs (env0 [] [] []) 400 43 C_uleast x = T_uleast x.1 x.2.1 := by kernel_rfl
theorem p_uleast (e : Int) (f : Int) (h0 : (Sh.int .i64).okA e) (h1 : (Sh.int .i64).okA f) : T_uleast e f := by
  unfold T_uleast lsE
  refine ⟨fun h => by rw [if_pos (.inl (of_decide_eq_true h))], fun h => ⟨fun h2 => ⟨fun h3 => ?_, fun h3 => ?_⟩, fun h2 => ?_⟩⟩
  · have h2 : f ≠ 0 := by simpa using h2
    rw [if_pos (.inr ⟨h2, of_decide_eq_true h3⟩)]
  · rw [if_neg (fun c => c.elim (of_decide_eq_false h) fun c => of_decide_eq_false h3 c.2)]
  · have h2 : f = 0 := by simpa using h2
    rw [if_neg (fun c => c.elim (of_decide_eq_false h) fun c => c.1 h2)]
theorem s_uleast : Sound Try.prog 43 C_uleast :=
  sound_of_eq (env0_ok (.nil)) (fun x => T_uleast x.1 x.2.1) r_uleast fun x ok hp => p_uleast x.1 x.2.1 ok.1 ok.2.1
noncomputable def C_r10Sides : Contract := { args := [.agg .vec], res := [.int .i64], pre := fun _ => True, F := fun x => ((sidE x.1 : Int), ()) }
def T_r10Sides (n : V3) : Prop :=
  (((decide (n.x < 1)) = true →
 (1, ()) = (sidE n, ())) ∧
((decide (n.x < 1)) = false →
(((decide (192 < n.x)) = true →
 (1, ()) = (sidE n, ())) ∧
((decide (192 < n.x)) = false →
(((decide (n.y < 1)) = true →
 (1, ()) = (sidE n, ())) ∧
((decide (n.y < 1)) = false →
(((decide (192 < n.y)) = true →
 (1, ()) = (sidE n, ())) ∧
((decide (192 < n.y)) = false →
(((decide (n.z < 1)) = true →
 (1, ()) = (sidE n, ())) ∧
((decide (n.z < 1)) = false →
(((decide (192 < n.z)) = true →
 (1, ()) = (sidE n, ())) ∧
((decide (192 < n.z)) = false →
(((decide (262144 < (w64 (((w64 (n.x * n.y)) * n.z))))) = true →
 (2, ()) = (sidE n, ())) ∧
((decide (262144 < (w64 (((w64 (n.x * n.y)) * n.z))))) = false →
(0, ()) = (sidE n, ())))))))))))))))
theorem r_r10Sides (x : HL C_r10Sides.args) : runs (env0 [] [] []) 400 47 C_r10Sides x = T_r10Sides x.1 := by kernel_rfl
theorem p_r10Sides (n : V3) (h0 : (Sh.agg .vec).okA n) : T_r10Sides n := by
  unfold T_r10Sides sidE
  refine ⟨fun h => ?_, fun h1 => ⟨fun h => ?_, fun h2 => ⟨fun h => ?_, fun h3 => ⟨fun h => ?_, fun h4 => ⟨fun h => ?_, fun h5 => ⟨fun h => ?_, fun h6 => ?_⟩⟩⟩⟩⟩⟩
  iterate 6
    · rw [if_neg (fun c => by simp only [sidB, Bool.and_eq_true, decide_eq_true_eq] at c; have := of_decide_eq_true h; omega)]
  have h1 := of_decide_eq_false h1
  have h2 := of_decide_eq_false h2
  have h3 := of_decide_eq_false h3
  have h4 := of_decide_eq_false h4
  have h5 := of_decide_eq_false h5
  have h6 := of_decide_eq_false h6
  have hb : sidB n = true := by
    simp only [sidB, Bool.and_eq_true, decide_eq_true_eq]
    omega
  obtain ⟨w1, w2⟩ := sid_prod hb
  rw [w1, w2, if_pos hb]
  exact ⟨fun h => by rw [if_pos (of_decide_eq_true h)], fun h => by rw [if_neg (of_decide_eq_false h)]⟩
theorem s_r10Sides : Sound Try.prog 47 C_r10Sides :=
  sound_of_eq (env0_ok (.nil)) (fun x => T_r10Sides x.1) r_r10Sides fun x ok hp => p_r10Sides x.1 ok.1
noncomputable def C_r10Least : Contract := { args := [.list .int], res := [.int .i64], pre := fun _ => True, F := fun x => ((lstE x.1 : Int), ()) }
def T_r10Least (l : List Int) : Prop :=
  (lstI l 0 0 ∧
∀ z1 : Int,
((decide ((-9223372036854775808) ≤ z1)) = true →
((decide (z1 ≤ 9223372036854775807)) = true →
∀ z4 : Int,
((decide ((-9223372036854775808) ≤ z4)) = true →
((decide (z4 ≤ 9223372036854775807)) = true →
(lstI l z1 z4 →
(((decide (z1 < (l.length : Int))) = true →
 (inB l z1 ∧
 (((decide (z4 = 0)) = true →
  (lstI l ((w64 (z1 + 1))) ((l.getD (z1).toNat 0)) ∧
  ((decide (0 ≤ inMu l ((w64 (z1 + 1))))) = true ∧
  (decide (inMu l ((w64 (z1 + 1))) < inMu l z1)) = true))) ∧
 ((decide (z4 = 0)) = false →
 (((!(decide ((l.getD (z1).toNat 0) = 0))) = true →
  (((decide ((l.getD (z1).toNat 0) < z4)) = true →
   (lstI l ((w64 (z1 + 1))) ((l.getD (z1).toNat 0)) ∧
   ((decide (0 ≤ inMu l ((w64 (z1 + 1))))) = true ∧
   (decide (inMu l ((w64 (z1 + 1))) < inMu l z1)) = true))) ∧
  ((decide ((l.getD (z1).toNat 0) < z4)) = false →
  (lstI l ((w64 (z1 + 1))) z4 ∧
  ((decide (0 ≤ inMu l ((w64 (z1 + 1))))) = true ∧
  (decide (inMu l ((w64 (z1 + 1))) < inMu l z1)) = true))))) ∧
 ((!(decide ((l.getD (z1).toNat 0) = 0))) = false →
 (lstI l ((w64 (z1 + 1))) z4 ∧
 ((decide (0 ≤ inMu l ((w64 (z1 + 1))))) = true ∧
 (decide (inMu l ((w64 (z1 + 1))) < inMu l z1)) = true)))))))) ∧
((decide (z1 < (l.length : Int))) = false →
(z4, ()) = (lstE l, ())))))))))
theorem r_r10Least (x : HL C_r10Least.args) : runs (env0 [] [(49, 3, { fix := [(.tmp 6, .list .int)], vars := [(.tmp 8, .int .i64), (.tmp 3, .int .i64)], inv := fun y v => lstI y.1 v.1 v.2.1, mu := fun y v => inMu y.1 v.1 })] []) 400 49 C_r10Least x = T_r10Least x.1 := by kernel_rfl
theorem p_r10Least (l : List Int) (h0 : (Sh.list .int).okA l) : T_r10Least l := by
  have hb : l.length * 8 ≤ 140737488355328 := h0.2
  unfold T_r10Least
  refine ⟨⟨Int.le_refl _, by omega, rfl⟩, fun i _ _ e _ _ hI => ⟨fun hi => ?_, fun hi => by rw [hI.2.2, take_end (of_decide_eq_false hi)]⟩⟩
  have hi := of_decide_eq_true hi
  have i0 := hI.1
  have f1 : w64 (i + 1) = i + 1 := w64_id (by omega) (by omega)
  have m1 : decide (0 ≤ inMu l (i + 1)) = true := decide_eq_true (by unfold inMu; omega)
  have m2 : decide (inMu l (i + 1) < inMu l i) = true := decide_eq_true (by unfold inMu; omega)
  have nx := lst_next hI hi
  rw [f1]
  unfold lsE at nx
  generalize l.getD i.toNat 0 = x at nx ⊢
  refine ⟨⟨i0, hi⟩, fun h => ⟨?_, m1, m2⟩, fun h => ⟨fun h2 => ⟨fun h3 => ⟨?_, m1, m2⟩, fun h3 => ⟨?_, m1, m2⟩⟩, fun h2 => ⟨?_, m1, m2⟩⟩⟩
  · rwa [if_pos (.inl (of_decide_eq_true h))] at nx
  · have h2 : x ≠ 0 := by simpa using h2
    rwa [if_pos (.inr ⟨h2, of_decide_eq_true h3⟩)] at nx
  · rwa [if_neg (fun c => c.elim (of_decide_eq_false h) fun c => of_decide_eq_false h3 c.2)] at nx
  · have h2 : x = 0 := by simpa using h2
    rwa [if_neg (fun c => c.elim (of_decide_eq_false h) fun c => c.1 h2)] at nx
theorem s_r10Least : Sound Try.prog 49 C_r10Least :=
  sound_of_eq (env0_ok (.nil)) (fun x => T_r10Least x.1) r_r10Least fun x ok hp => p_r10Least x.1 ok.1
noncomputable def C_r3Mod : Contract := { args := [.int .i64, .int .i64], res := [.int .i64], pre := fun x => inM2 x.2.1, F := fun x => ((emo x.1 x.2.1 : Int), ()) }
def T_r3Mod (n : Int) (m : Int) : Prop :=
  ((m ≠ 0) ∧
((m ≠ 0) ∧
((Int.tmod ((w64 (((Int.tmod n m) + m)))) m), ()) = (emo n m, ())))
theorem r_r3Mod (x : HL C_r3Mod.args) : runs (env0 [] [] []) 400 34 C_r3Mod x = T_r3Mod x.1 x.2.1 := by kernel_rfl
theorem p_r3Mod (n : Int) (m : Int) (h0 : (Sh.int .i64).okA n) (h1 : (Sh.int .i64).okA m) (hp : inM2 m) : T_r3Mod n m := by
  obtain ⟨e1, e2, e3⟩ := fmod_eq2 (n := n) hp
  exact ⟨e3, e3, by rw [e1, e2]; rfl⟩
theorem s_r3Mod : Sound Try.prog 34 C_r3Mod :=
  sound_of_eq (env0_ok (.nil)) (fun x => T_r3Mod x.1 x.2.1) r_r3Mod fun x ok hp => p_r3Mod x.1 x.2.1 ok.1 ok.2.1 hp
noncomputable def C_r3Det : Contract := { args := [.agg .mat], res := [.int .i64], pre := fun _ => True, F := fun x => ((w64 (detZ x.1) : Int), ()) }
def T_r3Det (m : M3) : Prop :=
  ((w64 (((w64 (((0 + (w64 ((m.xx * (w64 (((w64 (m.yy * m.zz)) - (w64 (m.yz * m.zy))))))))) + (w64 ((m.xy * (w64 (((w64 (m.yz * m.zx)) - (w64 (m.yx * m.zz))))))))))) + (w64 ((m.xz * (w64 (((w64 (m.yx * m.zy)) - (w64 (m.yy * m.zx))))))))))), ()) = (w64 (detZ m), ())
theorem r_r3Det (x : HL C_r3Det.args) : runs (env0 [] [] []) 400 87 C_r3Det x = T_r3Det x.1 := by kernel_rfl
theorem p_r3Det (m : M3) (h0 : (Sh.agg .mat).okA m) : T_r3Det m := by
  simp only [T_r3Det, detZ, Int.zero_add, and_self, w64_add_l, w64_add_r, w64_sub_l, w64_sub_r, w64_mul_l, w64_mul_r, w64_w64]
theorem s_r3Det : Sound Try.prog 87 C_r3Det :=
  sound_of_eq (env0_ok (.nil)) (fun x => T_r3Det x.1) r_r3Det fun x ok hp => p_r3Det x.1 ok.1
noncomputable def C_r3Within : Contract := { args := [.agg .mat], res := [.bool], pre := fun _ => True, F := fun x => ((okM x.1 : Bool), ()) }
def T_r3Within (m : M3) : Prop :=
  (((decide (m.xx < (-1000))) = true →
 (false, ()) = (okM m, ())) ∧
((decide (m.xx < (-1000))) = false →
(((decide (1000 < m.xx)) = true →
 (false, ()) = (okM m, ())) ∧
((decide (1000 < m.xx)) = false →
(((decide (m.xy < (-1000))) = true →
 (false, ()) = (okM m, ())) ∧
((decide (m.xy < (-1000))) = false →
(((decide (1000 < m.xy)) = true →
 (false, ()) = (okM m, ())) ∧
((decide (1000 < m.xy)) = false →
(((decide (m.xz < (-1000))) = true →
 (false, ()) = (okM m, ())) ∧
((decide (m.xz < (-1000))) = false →
(((decide (1000 < m.xz)) = true →
 (false, ()) = (okM m, ())) ∧
((decide (1000 < m.xz)) = false →
(((decide (m.yx < (-1000))) = true →
 (false, ()) = (okM m, ())) ∧
((decide (m.yx < (-1000))) = false →
(((decide (1000 < m.yx)) = true →
 (false, ()) = (okM m, ())) ∧
((decide (1000 < m.yx)) = false →
(((decide (m.yy < (-1000))) = true →
 (false, ()) = (okM m, ())) ∧
((decide (m.yy < (-1000))) = false →
(((decide (1000 < m.yy)) = true →
 (false, ()) = (okM m, ())) ∧
((decide (1000 < m.yy)) = false →
(((decide (m.yz < (-1000))) = true →
 (false, ()) = (okM m, ())) ∧
((decide (m.yz < (-1000))) = false →
(((decide (1000 < m.yz)) = true →
 (false, ()) = (okM m, ())) ∧
((decide (1000 < m.yz)) = false →
(((decide (m.zx < (-1000))) = true →
 (false, ()) = (okM m, ())) ∧
((decide (m.zx < (-1000))) = false →
(((decide (1000 < m.zx)) = true →
 (false, ()) = (okM m, ())) ∧
((decide (1000 < m.zx)) = false →
(((decide (m.zy < (-1000))) = true →
 (false, ()) = (okM m, ())) ∧
((decide (m.zy < (-1000))) = false →
(((decide (1000 < m.zy)) = true →
 (false, ()) = (okM m, ())) ∧
((decide (1000 < m.zy)) = false →
(((decide (m.zz < (-1000))) = true →
 (false, ()) = (okM m, ())) ∧
((decide (m.zz < (-1000))) = false →
(((decide (1000 < m.zz)) = true →
 (false, ()) = (okM m, ())) ∧
((decide (1000 < m.zz)) = false →
(true, ()) = (okM m, ())))))))))))))))))))))))))))))))))))))
theorem r_r3Within (x : HL C_r3Within.args) : runs (env0 [] [] []) 400 85 C_r3Within x = T_r3Within x.1 := by kernel_rfl
theorem p_r3Within (m : M3) (h0 : (Sh.agg .mat).okA m) : T_r3Within m := by
  simp only [T_r3Within, decide_eq_true_eq, decide_eq_false_iff_not]
  repeat' (first | apply And.intro | intro _ | exact trivial)
  all_goals simp only [okM, inE, Prod.mk.injEq, and_true]
  all_goals first | (symm; simp only [Bool.and_eq_true, decide_eq_true_eq]; omega) | (symm; rw [Bool.eq_false_iff]; simp only [ne_eq, Bool.and_eq_true, decide_eq_true_eq]; omega)
theorem s_r3Within : Sound Try.prog 85 C_r3Within :=
  sound_of_eq (env0_ok (.nil)) (fun x => T_r3Within x.1) r_r3Within fun x ok hp => p_r3Within x.1 ok.1
noncomputable def C_r3Part : Contract := { args := [.agg .vec], res := [.bool], pre := fun _ => True, F := fun x => ((inT x.1 : Bool), ()) }
def T_r3Part (t : V3) : Prop :=
  (((decide (t.x < 0)) = true →
 (false, ()) = (inT t, ())) ∧
((decide (t.x < 0)) = false →
(((decide (23 < t.x)) = true →
 (false, ()) = (inT t, ())) ∧
((decide (23 < t.x)) = false →
(((decide (t.y < 0)) = true →
 (false, ()) = (inT t, ())) ∧
((decide (t.y < 0)) = false →
(((decide (23 < t.y)) = true →
 (false, ()) = (inT t, ())) ∧
((decide (23 < t.y)) = false →
(((decide (t.z < 0)) = true →
 (false, ()) = (inT t, ())) ∧
((decide (t.z < 0)) = false →
(((decide (23 < t.z)) = true →
 (false, ()) = (inT t, ())) ∧
((decide (23 < t.z)) = false →
(true, ()) = (inT t, ())))))))))))))
theorem r_r3Part (x : HL C_r3Part.args) : runs (env0 [] [] []) 400 86 C_r3Part x = T_r3Part x.1 := by kernel_rfl
theorem p_r3Part (t : V3) (h0 : (Sh.agg .vec).okA t) : T_r3Part t := by
  simp only [T_r3Part, decide_eq_true_eq, decide_eq_false_iff_not]
  repeat' (first | apply And.intro | intro _ | exact trivial)
  all_goals simp only [inT, in24, Prod.mk.injEq, and_true]
  all_goals first | (symm; simp only [Bool.and_eq_true, decide_eq_true_eq]; omega) | (symm; rw [Bool.eq_false_iff]; simp only [ne_eq, Bool.and_eq_true, decide_eq_true_eq]; omega)
theorem s_r3Part : Sound Try.prog 86 C_r3Part :=
  sound_of_eq (env0_ok (.nil)) (fun x => T_r3Part x.1) r_r3Part fun x ok hp => p_r3Part x.1 ok.1
noncomputable def C_r3Check : Contract := { args := [.agg .op], res := [.int .i64], pre := fun _ => True, F := fun x => ((errO x.1 : Int), ()) }
def T_r3Check (o : Op3) : Prop :=
  (True ∧
∀ z1 : Bool,
(z1 = okM o.R →
(True ∧
∀ z3 : Bool,
(z3 = inT o.T →
(((!z3) = true →
 (3, ()) = (errO o, ())) ∧
((!z3) = false →
((z1 = true →
 (True ∧
 ∀ z7 : Int,
 (z7 = w64 (detZ o.R) →
 (((!(decide (z7 = 1))) = true →
  (True ∧
  ∀ z10 : Int,
  (z10 = w64 (detZ o.R) →
  (((!(decide (z10 = (-1)))) = true →
   (3, ()) = (errO o, ())) ∧
  ((!(decide (z10 = (-1)))) = false →
  (((!z1) = true →
   (4, ()) = (errO o, ())) ∧
  ((!z1) = false →
  (0, ()) = (errO o, ())))))))) ∧
 ((!(decide (z7 = 1))) = false →
 (((!z1) = true →
  (4, ()) = (errO o, ())) ∧
 ((!z1) = false →
 (0, ()) = (errO o, ())))))))) ∧
(z1 = false →
(((!z1) = true →
 (4, ()) = (errO o, ())) ∧
((!z1) = false →
(0, ()) = (errO o, ())))))))))))
theorem r_r3Check (x : HL C_r3Check.args) : runs (env0 [(87, C_r3Det.hid), (85, C_r3Within.hid), (86, C_r3Part.hid)] [] []) 400 52 C_r3Check x = T_r3Check x.1 := by kernel_rfl
theorem p_r3Check (o : Op3) (h0 : (Sh.agg .op).okA o) : T_r3Check o := by
  cases h1 : okM o.R <;> cases h2 : inT o.T <;> by_cases d1 : w64 (detZ o.R) = 1 <;> by_cases d2 : w64 (detZ o.R) = -1 <;> simp [T_r3Check, errO, uniE, errM, h1, h2, d1, d2]
theorem s_r3Check : Sound Try.prog 52 C_r3Check :=
  sound_of_eq (env0_ok (.cons s_r3Det.hid (.cons s_r3Within.hid (.cons s_r3Part.hid (.nil))))) (fun x => T_r3Check x.1) r_r3Check fun x ok hp => p_r3Check x.1 ok.1
end Go.Fx
