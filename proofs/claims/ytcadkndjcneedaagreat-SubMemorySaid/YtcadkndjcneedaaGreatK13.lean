/-
  Contracts: r5Maps, r5DocCheck.
-/
import Derived.Test.YtcadkndjcneedaaGreatK12
namespace Go.Fx
open Go Go.Proofs
set_option maxRecDepth 100000
set_option linter.unusedVariables false
set_option linter.unusedSimpArgs false
set_option linter.unusedSectionVars false
noncomputable def C_r5Maps : Contract := { args := [.list .op], res := [.int .i64], pre := fun _ => True, F := fun x => ((errL x.1 : Int), ()) }
def T_r5Maps (l : List Op3) : Prop :=
  (chInv l 0 0 ∧
∀ z1 : Int,
((decide ((-9223372036854775808) ≤ z1)) = true →
((decide (z1 ≤ 9223372036854775807)) = true →
∀ z4 : Int,
((decide ((-9223372036854775808) ≤ z4)) = true →
((decide (z4 ≤ 9223372036854775807)) = true →
(chInv l z1 z4 →
(((decide (z1 < (l.length : Int))) = true →
 (inB l z1 ∧
 (True ∧
 ∀ z9 : Bool,
 (z9 = okM (((l.getD (z1).toNat zerO)).R) →
 ((z9 = true →
  (True ∧
  ∀ z12 : Int,
  (z12 = w64 (detZ (((l.getD (z1).toNat zerO)).R)) →
  (inM 24 ∧
  (((!((decide ((((l.getD (z1).toNat zerO)).T).x = (modV 24 (((l.getD (z1).toNat zerO)).T)).x)) && ((decide ((((l.getD (z1).toNat zerO)).T).y = (modV 24 (((l.getD (z1).toNat zerO)).T)).y)) && ((decide ((((l.getD (z1).toNat zerO)).T).z = (modV 24 (((l.getD (z1).toNat zerO)).T)).z)) && true)))) = true →
   (3, ()) = (errL l, ())) ∧
  ((!((decide ((((l.getD (z1).toNat zerO)).T).x = (modV 24 (((l.getD (z1).toNat zerO)).T)).x)) && ((decide ((((l.getD (z1).toNat zerO)).T).y = (modV 24 (((l.getD (z1).toNat zerO)).T)).y)) && ((decide ((((l.getD (z1).toNat zerO)).T).z = (modV 24 (((l.getD (z1).toNat zerO)).T)).z)) && true)))) = false →
  (True ∧
  ((okM (((l.getD (z1).toNat zerO)).R) = true →
   (((!(decide (z12 = 1))) = true →
    (((!(decide (z12 = (-1)))) = true →
     (3, ()) = (errL l, ())) ∧
    ((!(decide (z12 = (-1)))) = false →
    (True ∧
    ∀ z18 : Bool,
    (z18 = okM (((l.getD (z1).toNat zerO)).R) →
    (((!z18) = true →
     (chInv l ((w64 (z1 + 1))) 4 ∧
     ((decide (0 ≤ opMu l ((w64 (z1 + 1))))) = true ∧
     (decide (opMu l ((w64 (z1 + 1))) < opMu l z1)) = true))) ∧
    ((!z18) = false →
    (chInv l ((w64 (z1 + 1))) z4 ∧
    ((decide (0 ≤ opMu l ((w64 (z1 + 1))))) = true ∧
    (decide (opMu l ((w64 (z1 + 1))) < opMu l z1)) = true))))))))) ∧
   ((!(decide (z12 = 1))) = false →
   (True ∧
   ∀ z17 : Bool,
   (z17 = okM (((l.getD (z1).toNat zerO)).R) →
   (((!z17) = true →
    (chInv l ((w64 (z1 + 1))) 4 ∧
    ((decide (0 ≤ opMu l ((w64 (z1 + 1))))) = true ∧
    (decide (opMu l ((w64 (z1 + 1))) < opMu l z1)) = true))) ∧
   ((!z17) = false →
   (chInv l ((w64 (z1 + 1))) z4 ∧
   ((decide (0 ≤ opMu l ((w64 (z1 + 1))))) = true ∧
   (decide (opMu l ((w64 (z1 + 1))) < opMu l z1)) = true))))))))) ∧
  (okM (((l.getD (z1).toNat zerO)).R) = false →
  (True ∧
  ∀ z16 : Bool,
  (z16 = okM (((l.getD (z1).toNat zerO)).R) →
  (((!z16) = true →
   (chInv l ((w64 (z1 + 1))) 4 ∧
   ((decide (0 ≤ opMu l ((w64 (z1 + 1))))) = true ∧
   (decide (opMu l ((w64 (z1 + 1))) < opMu l z1)) = true))) ∧
  ((!z16) = false →
  (chInv l ((w64 (z1 + 1))) z4 ∧
  ((decide (0 ≤ opMu l ((w64 (z1 + 1))))) = true ∧
  (decide (opMu l ((w64 (z1 + 1))) < opMu l z1)) = true))))))))))))))) ∧
 (z9 = false →
 (inM 24 ∧
 (((!((decide ((((l.getD (z1).toNat zerO)).T).x = (modV 24 (((l.getD (z1).toNat zerO)).T)).x)) && ((decide ((((l.getD (z1).toNat zerO)).T).y = (modV 24 (((l.getD (z1).toNat zerO)).T)).y)) && ((decide ((((l.getD (z1).toNat zerO)).T).z = (modV 24 (((l.getD (z1).toNat zerO)).T)).z)) && true)))) = true →
  (3, ()) = (errL l, ())) ∧
 ((!((decide ((((l.getD (z1).toNat zerO)).T).x = (modV 24 (((l.getD (z1).toNat zerO)).T)).x)) && ((decide ((((l.getD (z1).toNat zerO)).T).y = (modV 24 (((l.getD (z1).toNat zerO)).T)).y)) && ((decide ((((l.getD (z1).toNat zerO)).T).z = (modV 24 (((l.getD (z1).toNat zerO)).T)).z)) && true)))) = false →
 (True ∧
 ((okM (((l.getD (z1).toNat zerO)).R) = true →
  (3, ()) = (errL l, ())) ∧
 (okM (((l.getD (z1).toNat zerO)).R) = false →
 (True ∧
 ∀ z14 : Bool,
 (z14 = okM (((l.getD (z1).toNat zerO)).R) →
 (((!z14) = true →
  (chInv l ((w64 (z1 + 1))) 4 ∧
  ((decide (0 ≤ opMu l ((w64 (z1 + 1))))) = true ∧
  (decide (opMu l ((w64 (z1 + 1))) < opMu l z1)) = true))) ∧
 ((!z14) = false →
 (chInv l ((w64 (z1 + 1))) z4 ∧
 ((decide (0 ≤ opMu l ((w64 (z1 + 1))))) = true ∧
 (decide (opMu l ((w64 (z1 + 1))) < opMu l z1)) = true)))))))))))))))))) ∧
((decide (z1 < (l.length : Int))) = false →
(z4, ()) = (errL l, ())))))))))
theorem r_r5Maps (x : HL C_r5Maps.args) : runs (env0 [(87, C_r5Within.hid), (88, C_r5Det.hid), (89, C_f2Bring.hid)] [(62, 3, { fix := [(.tmp 7, .list .op)], vars := [(.tmp 9, .int .i64), (.tmp 3, .int .i64)], inv := fun y v => chInv y.1 v.1 v.2.1, mu := fun y v => opMu y.1 v.1 })] []) 400 62 C_r5Maps x = T_r5Maps x.1 := by kernel_rfl
theorem p_r5Maps (l : List Op3) (h0 : (Sh.list .op).okA l) : T_r5Maps l := by
  have hb : l.length * 96 ≤ 140737488355328 := Nat.le_trans h0.2 (by decide)
  refine ⟨⟨by omega, by omega, by simp, rfl⟩, fun i _ _ w _ _ hI => ⟨fun hi => ?_, fun hi => ch_end hI (of_decide_eq_false hi)⟩⟩
  have hi := of_decide_eq_true hi
  have i0 := hI.1
  have bad := ch_bad i0 hi (d := zerO)
  have next := fun h3 w' hw => ch_next hb hI hi (d := zerO) h3 (w' := w') hw
  have cls := maps_o (l.getD i.toNat zerO)
  have hT := modT (l.getD i.toNat zerO).T
  generalize l.getD i.toNat zerO = o at bad next cls hT
  rw [hT]
  refine ⟨⟨i0, hi⟩, trivial, fun z hz => ⟨fun hk => ⟨trivial, fun d hd => ⟨k24, fun h1 => ?_, fun h1 => ⟨trivial, fun h2 => ⟨fun h3 => ⟨fun h4 => ?_, fun h4 => ⟨trivial, fun y hy => ⟨fun h5 => ?_, fun h5 => ?_⟩⟩⟩, fun h3 => ⟨trivial, fun y hy => ⟨fun h5 => ?_, fun h5 => ?_⟩⟩⟩, fun h2 => ⟨trivial, fun y hy => ⟨fun h5 => ?_, fun h5 => ?_⟩⟩⟩⟩⟩, fun hk => ⟨k24, fun h1 => ?_, fun h1 => ⟨trivial, fun h2 => ?_, fun h2 => ⟨trivial, fun y hy => ⟨fun h5 => ?_, fun h5 => ?_⟩⟩⟩⟩⟩⟩
  all_goals (try subst hd) <;> (try subst hy) <;> (try subst hz)
  all_goals simp only [Bool.not_eq_true', Bool.not_eq_false', decide_eq_false_iff_not, decide_eq_true_eq] at *
  all_goals (first | (exact bad (by simp_all)) | (exact next (by simp_all) _ (by simp_all)) | (simp_all; done))
theorem s_r5Maps : Sound Tryz.prog 62 C_r5Maps :=
  sound_of_eq (env0_ok (.cons s_r5Within.hid (.cons s_r5Det.hid (.cons s_f2Bring.hid (.nil))))) (fun x => T_r5Maps x.1) r_r5Maps fun x ok hp => p_r5Maps x.1 ok.1
noncomputable def C_r5DocCheck : Contract := { args := [.list .op], res := [.int .i64], pre := fun _ => True, F := fun x => ((chkE x.1 : Int), ()) }
def T_r5DocCheck (g : List Op3) : Prop :=
  (((decide (192 < (g.length : Int))) = true →
 (2, ()) = (chkE g, ())) ∧
((decide (192 < (g.length : Int))) = false →
(True ∧
∀ z2 : Int,
(z2 = errL g →
(((!(decide (z2 = 0))) = true →
 (z2, ()) = (chkE g, ())) ∧
((!(decide (z2 = 0))) = false →
(stInv g 1 ∧
∀ z5 : Int,
((decide ((-9223372036854775808) ≤ z5)) = true →
((decide (z5 ≤ 9223372036854775807)) = true →
(stInv g z5 →
(((decide (z5 < (g.length : Int))) = true →
 (inB g ((w64 (z5 - 1))) ∧
 (inB g z5 ∧
 (True ∧
 (((decide (0 ≤ cmpO (((g.getD ((w64 (z5 - 1))).toNat zerO))) (((g.getD (z5).toNat zerO))))) = true →
  (5, ()) = (chkE g, ())) ∧
 ((decide (0 ≤ cmpO (((g.getD ((w64 (z5 - 1))).toNat zerO))) (((g.getD (z5).toNat zerO))))) = false →
 (stInv g ((w64 (z5 + 1))) ∧
 ((decide (0 ≤ opMu g ((w64 (z5 + 1))))) = true ∧
 (decide (opMu g ((w64 (z5 + 1))) < opMu g z5)) = true)))))))) ∧
((decide (z5 < (g.length : Int))) = false →
(True ∧
(True ∧
∀ z10 : Int,
(z10 = idxO g oneO →
(((decide (z10 < 0)) = true →
 (5, ()) = (chkE g, ())) ∧
((decide (z10 < 0)) = false →
(cgInv g 0 ∧
∀ z13 : Int,
((decide ((-9223372036854775808) ≤ z13)) = true →
((decide (z13 ≤ 9223372036854775807)) = true →
(cgInv g z13 →
(((decide (z13 < (g.length : Int))) = true →
 (inB g z13 ∧
 (cgIn g (((g.getD (z13).toNat zerO))) 0 ∧
 ∀ z18 : Int,
 ((decide ((-9223372036854775808) ≤ z18)) = true →
 ((decide (z18 ≤ 9223372036854775807)) = true →
 (cgIn g (((g.getD (z13).toNat zerO))) z18 →
 (((decide (z18 < (g.length : Int))) = true →
  (inB g z18 ∧
  (mulPre (((g.getD (z13).toNat zerO))) (((g.getD (z18).toNat zerO))) ∧
  ∀ z23 : Op3,
  (z23 = mulO (((g.getD (z13).toNat zerO))) (((g.getD (z18).toNat zerO))) →
  (True ∧
  ∀ z25 : Int,
  (z25 = idxO g z23 →
  (((decide (z25 < 0)) = true →
   (5, ()) = (chkE g, ())) ∧
  ((decide (z25 < 0)) = false →
  (cgIn g (((g.getD (z13).toNat zerO))) ((w64 (z18 + 1))) ∧
  ((decide (0 ≤ opMu g ((w64 (z18 + 1))))) = true ∧
  (decide (opMu g ((w64 (z18 + 1))) < opMu g z18)) = true)))))))))) ∧
 ((decide (z18 < (g.length : Int))) = false →
 (cgInv g ((w64 (z13 + 1))) ∧
 ((decide (0 ≤ opMu g ((w64 (z13 + 1))))) = true ∧
 (decide (opMu g ((w64 (z13 + 1))) < opMu g z13)) = true)))))))))) ∧
((decide (z13 < (g.length : Int))) = false →
(0, ()) = (chkE g, ()))))))))))))))))))))))))
theorem r_r5DocCheck (x : HL C_r5DocCheck.args) : runs (env0 [(62, C_r5Maps.hid), (63, C_r5Compare.hid), (65, C_r5One), (64, C_r5Place.hid), (66, C_r5Mul.hid)] [(41, 7, { fix := [(.tmp 0, .list .op)], vars := [(.tmp 4, .int .i64)], inv := fun y v => stInv y.1 v.1, mu := fun y v => opMu y.1 v.1 }), (41, 14, { fix := [(.tmp 38, .list .op)], vars := [(.tmp 40, .int .i64)], inv := fun y v => cgInv y.1 v.1, mu := fun y v => opMu y.1 v.1 }), (41, 17, { fix := [(.tmp 44, .list .op), (.cell 6, .agg .op)], vars := [(.tmp 46, .int .i64)], inv := fun y v => cgIn y.1 y.2.1 v.1, mu := fun y v => opMu y.1 v.1 })] []) 400 41 C_r5DocCheck x = T_r5DocCheck x.1 := by kernel_rfl
theorem p_r5DocCheck (g : List Op3) (h0 : (Sh.list .op).okA g) : T_r5DocCheck g := by
  have hb : g.length * 96 ≤ room := h0.2
  refine ⟨fun h => ?_, fun h => ⟨trivial, fun e he => ⟨fun h2 => ?_, fun h2 => ?_⟩⟩⟩
  · have hg : gE g = 2 := by unfold gE; rw [if_pos (of_decide_eq_true h)]
    unfold chkE; rw [hg]; rfl
  · have hg : gE g = errL g := by unfold gE; rw [if_neg (of_decide_eq_false h)]
    have hne : gE g ≠ 0 := by rw [hg, ← he]; simpa using h2
    unfold chkE; rw [if_neg hne, hg, he]
  have hg : gE g = errL g := by unfold gE; rw [if_neg (of_decide_eq_false h)]
  have hz : gE g = 0 := by rw [hg, ← he]; simpa using h2
  have hF := gE_frm hz
  have five : grpB g ≠ true → (5, ()) = (chkE g, ()) := fun hn => by unfold chkE; rw [if_pos hz, if_neg hn]
  refine ⟨st_init g, fun i _ _ hI => ⟨fun hi => ?_, fun hi => ?_⟩⟩
  · have hi := of_decide_eq_true hi
    have e1 := st_prev hb hI hi
    refine ⟨by rw [e1]; exact ⟨by have := hI.1; omega, by omega⟩, ⟨by have := hI.1; omega, hi⟩, trivial, fun hc => five fun hg => ?_, fun hc => ?_⟩
    · exact st_bad hI hi hg (by rw [← e1]; exact of_decide_eq_true hc)
    · exact st_next hb hI hi (by rw [← e1]; exact of_decide_eq_false hc)
  have hst := st_end hI (of_decide_eq_false hi)
  refine ⟨trivial, trivial, fun k hk => ⟨fun ho => five fun hg => ?_, fun ho => ?_⟩⟩
  · have h1 : oneO ∉ g := idxD_neg.1 (by have := of_decide_eq_true ho; rw [hk] at this; exact this)
    exact h1 (memO_iff.1 (grpB_iff.1 hg).2.1)
  have hone : oneO ∈ g := Classical.byContradiction fun e => by
    have : idxO g oneO = -1 := idxD_none e
    rw [hk, this] at ho; cases ho
  refine ⟨⟨by omega, by omega, by simp⟩, fun i _ _ hC => ⟨fun hi => ?_, fun hi => ?_⟩⟩
  · have hi := of_decide_eq_true hi
    have ha := getD_mem hC.1 hi zerO
    refine ⟨⟨hC.1, hi⟩, ⟨by omega, by omega, by simp⟩, fun j _ _ hD => ⟨fun hj => ?_, fun hj => ?_⟩⟩
    · have hj := of_decide_eq_true hj
      have hbm := getD_mem hD.1 hj zerO
      refine ⟨⟨hD.1, hj⟩, frm_pre (hF _ ha) (hF _ hbm), fun p hp => ⟨trivial, fun q hq => ⟨fun hn => five fun hg => ?_, fun hn => ?_⟩⟩⟩
      · have h1 := (cg_of hF (clsB_iff.1 (grpB_iff.1 hg).2.2) ha hbm).2
        have h2 : p ∉ g := idxD_neg.1 (by have := of_decide_eq_true hn; rw [hq] at this; exact this)
        rw [hp] at h2
        exact h2 h1
      · have hin : mulO (g.getD i.toNat zerO) (g.getD j.toNat zerO) ∈ g := Classical.byContradiction fun e => by
          have : idxO g (mulO (g.getD i.toNat zerO) (g.getD j.toNat zerO)) = -1 := idxD_none e
          rw [hq, hp, this] at hn; cases hn
        refine cg_in hb hD hj ⟨?_, hin⟩
        rw [mulE_frm (hF _ ha) (hF _ hbm)]
        exact errM_B (by decide) (hF _ hin).B
    · exact cg_out hb hC hi hD (of_decide_eq_false hj)
  · rw [chk_ok hz hst hone hC (of_decide_eq_false hi)]
theorem s_r5DocCheck : Sound Tryz.prog 41 C_r5DocCheck :=
  sound_of_eq (env0_ok (.cons s_r5Maps.hid (.cons s_r5Compare.hid (.cons s_r5One (.cons s_r5Place.hid (.cons s_r5Mul.hid (.nil))))))) (fun x => T_r5DocCheck x.1) r_r5DocCheck fun x ok hp => p_r5DocCheck x.1 ok.1
end Go.Fx
