/-
  Contracts: r5DocTable, r5DocInverses.
-/
import Derived.Test.YtlhkgleaeoaokaaK14
namespace Go.Fx
open Go Go.Proofs
set_option maxRecDepth 100000
set_option linter.unusedVariables false
set_option linter.unusedSimpArgs false
set_option linter.unusedSectionVars false
noncomputable def C_r5DocTable : Contract := { args := [.list .op], res := [.lists .int, .int .i64], pre := fun _ => True, F := fun x => ((tabL x.1 : List (List Int)), (chkE x.1 : Int), ()) }
def T_r5DocTable (g : List Op3) : Prop :=
  (True ∧
∀ z1 : Int,
(z1 = chkE g →
(((!(decide (z1 = 0))) = true →
 ([], (z1, ())) = (tabL g, (chkE g, ()))) ∧
((!(decide (z1 = 0))) = false →
(tbInv g [] 0 ∧
∀ z4 : List (List Int),
∀ z5 : Int,
((decide ((-9223372036854775808) ≤ z5)) = true →
((decide (z5 ≤ 9223372036854775807)) = true →
(tbInv g z4 z5 →
(lfit 24 z4 →
(((decide (z5 < (g.length : Int))) = true →
 (inB g z5 ∧
 (drIn g (((g.getD (z5).toNat zerO))) [] 0 ∧
 ∀ z11 : List Int,
 ∀ z12 : Int,
 ((decide ((-9223372036854775808) ≤ z12)) = true →
 ((decide (z12 ≤ 9223372036854775807)) = true →
 (drIn g (((g.getD (z5).toNat zerO))) z11 z12 →
 (lfit 8 z11 →
 (((decide (z12 < (g.length : Int))) = true →
  (inB g z12 ∧
  (mulPre (((g.getD (z5).toNat zerO))) (((g.getD (z12).toNat zerO))) ∧
  ∀ z18 : Op3,
  (z18 = mulO (((g.getD (z5).toNat zerO))) (((g.getD (z12).toNat zerO))) →
  (True ∧
  ∀ z20 : Int,
  (z20 = idxO g z18 →
  (lfit 8 (lapp z11 [z20]) ∧
  (drIn g (((g.getD (z5).toNat zerO))) (lapp z11 [z20]) ((w64 (z12 + 1))) ∧
  ((decide (0 ≤ opMu g ((w64 (z12 + 1))))) = true ∧
  (decide (opMu g ((w64 (z12 + 1))) < opMu g z12)) = true))))))))) ∧
 ((decide (z12 < (g.length : Int))) = false →
 (lfit 24 (lapp z4 [z11]) ∧
 (tbInv g (lapp z4 [z11]) ((w64 (z5 + 1))) ∧
 ((decide (0 ≤ opMu g ((w64 (z5 + 1))))) = true ∧
 (decide (opMu g ((w64 (z5 + 1))) < opMu g z5)) = true)))))))))))) ∧
((decide (z5 < (g.length : Int))) = false →
(z4, (0, ())) = (tabL g, (chkE g, ())))))))))))))
theorem r_r5DocTable (x : HL C_r5DocTable.args) : runs (env0 [(18, C_r5DocCheck.hid), (20, C_r5Mul.hid), (19, C_r5Place.hid)] [(7, 6, { fix := [(.tmp 16, .list .op)], vars := [(.tmp 5, .lists .int), (.tmp 18, .int .i64)], inv := fun y v => tbInv y.1 v.1 v.2.1, mu := fun y v => opMu y.1 v.2.1 }), (7, 10, { fix := [(.tmp 22, .list .op), (.cell 7, .agg .op)], vars := [(.tmp 8, .list .int), (.tmp 24, .int .i64)], inv := fun y v => drIn y.1 y.2.1 v.1 v.2.1, mu := fun y v => opMu y.1 v.2.1 })] []) 400 7 C_r5DocTable x = T_r5DocTable x.1 := by kernel_rfl
theorem p_r5DocTable (g : List Op3) (h0 : (Sh.list .op).okA g) : T_r5DocTable g := by
  have hb : g.length * 96 ≤ room := h0.2
  refine ⟨trivial, fun e he => ⟨fun h => ?_, fun h => ?_⟩⟩
  · have hne : chkE g ≠ 0 := by rw [← he]; simpa using h
    unfold tabL; rw [if_neg hne, he]
  have hz : chkE g = 0 := by rw [← he]; simpa using h
  obtain ⟨hF, hnd, hone, hcl⟩ := chk_grp hz
  have h192 := chk_len hz
  refine ⟨⟨by omega, by omega, by simp⟩, fun r i _ _ hI hfit => ⟨fun hi => ?_, fun hi => ?_⟩⟩
  · have hi := of_decide_eq_true hi
    have ha := getD_mem hI.1 hi zerO
    refine ⟨⟨hI.1, hi⟩, ⟨by omega, by omega, by simp⟩, fun row j _ _ hR hlen => ⟨fun hj => ?_, fun hj => ?_⟩⟩
    · have hj := of_decide_eq_true hj
      have hbm := getD_mem hR.1 hj zerO
      refine ⟨⟨hR.1, hj⟩, frm_pre (hF _ ha) (hF _ hbm), fun p hp => ⟨trivial, fun q hq => ⟨?_, ?_⟩⟩⟩
      · show (row ++ [q]).length * 8 ≤ 140737488355328
        rw [hR.2.2, List.length_append, List.length_take, rowO_len]; simp; omega
      · rw [hq, hp]
        exact dr_in hb hR hj
    · exact ⟨by show (r ++ [row]).length * 24 ≤ 140737488355328; rw [hI.2.2]; simp; omega, dr_out hb hI hi hR (of_decide_eq_false hj)⟩
  · unfold tabL
    rw [if_pos hz, hI.2.2, take_end (of_decide_eq_false hi), hz]
theorem s_r5DocTable : Sound Try.prog 7 C_r5DocTable :=
  sound_of_eq (env0_ok (.cons s_r5DocCheck.hid (.cons s_r5Mul.hid (.cons s_r5Place.hid (.nil))))) (fun x => T_r5DocTable x.1) r_r5DocTable fun x ok hp => p_r5DocTable x.1 ok.1
noncomputable def C_r5DocInverses : Contract := { args := [.list .op], res := [.list .int, .int .i64], pre := fun _ => True, F := fun x => ((diL x.1 : List Int), (chkE x.1 : Int), ()) }
def T_r5DocInverses (g : List Op3) : Prop :=
  (True ∧
∀ z1 : Int,
(z1 = chkE g →
(((!(decide (z1 = 0))) = true →
 ([], (z1, ())) = (diL g, (chkE g, ()))) ∧
((!(decide (z1 = 0))) = false →
(diInv g [] 0 ∧
∀ z4 : List Int,
∀ z5 : Int,
((decide ((-9223372036854775808) ≤ z5)) = true →
((decide (z5 ≤ 9223372036854775807)) = true →
(diInv g z4 z5 →
(lfit 8 z4 →
(((decide (z5 < (g.length : Int))) = true →
 (inB g z5 ∧
 (diIn g z5 (((g.getD (z5).toNat zerO))) z4 0 ∧
 ∀ z11 : List Int,
 ∀ z12 : Int,
 ((decide ((-9223372036854775808) ≤ z12)) = true →
 ((decide (z12 ≤ 9223372036854775807)) = true →
 (diIn g z5 (((g.getD (z5).toNat zerO))) z11 z12 →
 (lfit 8 z11 →
 (((decide (z12 < (g.length : Int))) = true →
  (inB g z12 ∧
  (mulPre (((g.getD (z5).toNat zerO))) (((g.getD (z12).toNat zerO))) ∧
  ∀ z18 : Op3,
  (z18 = mulO (((g.getD (z5).toNat zerO))) (((g.getD (z12).toNat zerO))) →
  (True ∧
  ((((decide (z18.R.xx = oneO.R.xx)) && ((decide (z18.R.xy = oneO.R.xy)) && ((decide (z18.R.xz = oneO.R.xz)) && ((decide (z18.R.yx = oneO.R.yx)) && ((decide (z18.R.yy = oneO.R.yy)) && ((decide (z18.R.yz = oneO.R.yz)) && ((decide (z18.R.zx = oneO.R.zx)) && ((decide (z18.R.zy = oneO.R.zy)) && ((decide (z18.R.zz = oneO.R.zz)) && ((decide (z18.T.x = oneO.T.x)) && ((decide (z18.T.y = oneO.T.y)) && ((decide (z18.T.z = oneO.T.z)) && true)))))))))))) = true →
   (lfit 8 (lapp z11 [z12]) ∧
   (diIn g z5 (((g.getD (z5).toNat zerO))) (lapp z11 [z12]) ((w64 (z12 + 1))) ∧
   ((decide (0 ≤ opMu g ((w64 (z12 + 1))))) = true ∧
   (decide (opMu g ((w64 (z12 + 1))) < opMu g z12)) = true)))) ∧
  (((decide (z18.R.xx = oneO.R.xx)) && ((decide (z18.R.xy = oneO.R.xy)) && ((decide (z18.R.xz = oneO.R.xz)) && ((decide (z18.R.yx = oneO.R.yx)) && ((decide (z18.R.yy = oneO.R.yy)) && ((decide (z18.R.yz = oneO.R.yz)) && ((decide (z18.R.zx = oneO.R.zx)) && ((decide (z18.R.zy = oneO.R.zy)) && ((decide (z18.R.zz = oneO.R.zz)) && ((decide (z18.T.x = oneO.T.x)) && ((decide (z18.T.y = oneO.T.y)) && ((decide (z18.T.z = oneO.T.z)) && true)))))))))))) = false →
  (diIn g z5 (((g.getD (z5).toNat zerO))) z11 ((w64 (z12 + 1))) ∧
  ((decide (0 ≤ opMu g ((w64 (z12 + 1))))) = true ∧
  (decide (opMu g ((w64 (z12 + 1))) < opMu g z12)) = true))))))))) ∧
 ((decide (z12 < (g.length : Int))) = false →
 (diInv g z11 ((w64 (z5 + 1))) ∧
 ((decide (0 ≤ opMu g ((w64 (z5 + 1))))) = true ∧
 (decide (opMu g ((w64 (z5 + 1))) < opMu g z5)) = true))))))))))) ∧
((decide (z5 < (g.length : Int))) = false →
(z4, (0, ())) = (diL g, (chkE g, ())))))))))))))
theorem r_r5DocInverses (x : HL C_r5DocInverses.args) : runs (env0 [(18, C_r5DocCheck.hid), (20, C_r5Mul.hid), (13, C_r5One)] [(10, 6, { fix := [(.tmp 15, .list .op)], vars := [(.tmp 5, .list .int), (.tmp 17, .int .i64)], inv := fun y v => diInv y.1 v.1 v.2.1, mu := fun y v => opMu y.1 v.2.1 }), (10, 9, { fix := [(.tmp 21, .list .op), (.tmp 17, .int .i64), (.cell 7, .agg .op)], vars := [(.tmp 5, .list .int), (.tmp 23, .int .i64)], inv := fun y v => diIn y.1 y.2.1 y.2.2.1 v.1 v.2.1, mu := fun y v => opMu y.1 v.2.1 })] []) 400 10 C_r5DocInverses x = T_r5DocInverses x.1 := by kernel_rfl
theorem p_r5DocInverses (g : List Op3) (h0 : (Sh.list .op).okA g) : T_r5DocInverses g := by
  have hb : g.length * 96 ≤ room := h0.2
  refine ⟨trivial, fun e he => ⟨fun h => ?_, fun h => ?_⟩⟩
  · have hne : chkE g ≠ 0 := by rw [← he]; simpa using h
    unfold diL; rw [if_neg hne, he]
  have hz : chkE g = 0 := by rw [← he]; simpa using h
  obtain ⟨hF, hnd, hone, hcl⟩ := chk_grp hz
  have h192 := chk_len hz
  refine ⟨⟨by omega, by omega, by simp⟩, fun l i _ _ hI hfit => ⟨fun hi => ?_, fun hi => ?_⟩⟩
  · have hi := of_decide_eq_true hi
    have i0 := hI.1
    have ha := getD_mem hI.1 hi zerO
    refine ⟨⟨hI.1, hi⟩, ⟨by omega, by omega, by rw [hI.2.2]; simp [dinR]⟩, fun l2 j _ _ hJ hfit2 => ⟨fun hj => ?_, fun hj => ?_⟩⟩
    · have hj := of_decide_eq_true hj
      have j0 := hJ.1
      have hbm := getD_mem hJ.1 hj zerO
      obtain ⟨e1, e2, e3⟩ := opMu_next hb j0 hj
      refine ⟨⟨hJ.1, hj⟩, frm_pre (hF _ ha) (hF _ hbm), fun p hp => ⟨trivial, ?_⟩⟩
      rw [eqOc']
      refine ⟨fun h1 => ⟨?_, ?_, e2, e3⟩, fun h1 => ⟨?_, e2, e3⟩⟩
      · show (l2 ++ [j]).length * 8 ≤ 140737488355328
        have h3 := din_flat g g.length (g.take i.toNat) fun a => dinR_len g a _
        have h4 := dinR_len g (g.getD i.toNat zerO) j.toNat
        have h5 : (g.take i.toNat).length * g.length ≤ 192 * 192 := Nat.mul_le_mul (by rw [List.length_take]; omega) h192
        have h6 : l2.length = ((g.take i.toNat).flatMap fun a => dinR g a g.length).length + (dinR g (g.getD i.toNat zerO) j.toNat).length := by rw [hJ.2.2, List.length_append]
        rw [List.length_append]; simp only [List.length_singleton]; omega
      · rw [e1]
        refine ⟨by omega, by omega, ?_⟩
        have h1 := of_decide_eq_true h1
        rw [hp] at h1
        rw [show (j + 1).toNat = j.toNat + 1 by omega, dinR_snoc, if_pos h1, ← List.append_assoc, ← hJ.2.2, show ((j.toNat : Nat) : Int) = j by omega]
        rfl
      · rw [e1]
        refine ⟨by omega, by omega, ?_⟩
        have h1 := of_decide_eq_false h1
        rw [hp] at h1
        rw [show (j + 1).toNat = j.toNat + 1 by omega, dinR_snoc, if_neg h1, ← hJ.2.2]
    · have hj := of_decide_eq_false hj
      obtain ⟨e1, e2, e3⟩ := opMu_next hb i0 hi
      refine ⟨?_, e2, e3⟩
      rw [e1]
      refine ⟨by omega, by omega, ?_⟩
      rw [take_succ i0 hi zerO, List.flatMap_append, hJ.2.2, show j.toNat = g.length by have := hJ.2.1; have := hJ.1; omega]
      simp
  · unfold diL
    rw [if_pos hz, hI.2.2, take_end (of_decide_eq_false hi), hz]
theorem s_r5DocInverses : Sound Try.prog 10 C_r5DocInverses :=
  sound_of_eq (env0_ok (.cons s_r5DocCheck.hid (.cons s_r5Mul.hid (.cons s_r5One (.nil))))) (fun x => T_r5DocInverses x.1) r_r5DocInverses fun x ok hp => p_r5DocInverses x.1 ok.1
end Go.Fx
