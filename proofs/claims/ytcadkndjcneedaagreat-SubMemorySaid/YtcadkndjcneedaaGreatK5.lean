/-
  Contracts: gTable, gInverses.
-/
import Derived.Test.YtcadkndjcneedaaGreatK4
namespace Go.Fx
open Go Go.Proofs
set_option maxRecDepth 100000
set_option linter.unusedVariables false
set_option linter.unusedSimpArgs false
set_option linter.unusedSectionVars false
noncomputable def C_gTable : Contract := { args := [.list .op], res := [.lists .int, .int .i64], pre := fun _ => True, F := fun x => ((tabL x.1 : List (List Int)), (chkE x.1 : Int), ()) }
def T_gTable (g : List Op3) : Prop :=
  (True ∧
∀ z1 : Int,
(z1 = chkE g →
(((!(decide (z1 = 0))) = true →
 ([], (z1, ())) = (tabL g, (chkE g, ()))) ∧
((!(decide (z1 = 0))) = false →
(plInv g [] 0 ∧
∀ z4 : List (Op3 × Int),
∀ z5 : Int,
((decide ((-9223372036854775808) ≤ z5)) = true →
((decide (z5 ≤ 9223372036854775807)) = true →
(plInv g z4 z5 →
(((decide (z5 < (g.length : Int))) = true →
 (inB g z5 ∧
 (plInv g ((mset eqO z4 (((g.getD (z5).toNat zerO))) z5)) ((w64 (z5 + 1))) ∧
 ((decide (0 ≤ opMu g ((w64 (z5 + 1))))) = true ∧
 (decide (opMu g ((w64 (z5 + 1))) < opMu g z5)) = true)))) ∧
((decide (z5 < (g.length : Int))) = false →
(tbInv g [] 0 ∧
∀ z10 : List (List Int),
∀ z11 : Int,
((decide ((-9223372036854775808) ≤ z11)) = true →
((decide (z11 ≤ 9223372036854775807)) = true →
(tbInv g z10 z11 →
(lfit 24 z10 →
(((decide (z11 < (g.length : Int))) = true →
 (inB g z11 ∧
 ((leP 0 (g.length : Int) ∧
  lfit 8 ((lrep (g.length : Int) (0 : Int)))) ∧
 (tbIn g (((g.getD (z11).toNat zerO))) ((lrep (g.length : Int) (0 : Int))) 0 ∧
 ∀ z17 : List Int,
 ∀ z18 : Int,
 ((decide ((-9223372036854775808) ≤ z18)) = true →
 ((decide (z18 ≤ 9223372036854775807)) = true →
 (tbIn g (((g.getD (z11).toNat zerO))) z17 z18 →
 (eqP (z17.length : Int) ((((lrep (g.length : Int) (0 : Int))).length : Int)) →
 (((decide (z18 < (g.length : Int))) = true →
  (inB g z18 ∧
  (True ∧
  ∀ z24 : Op3,
  (z24 = selO (mulE (((g.getD (z11).toNat zerO))) (((g.getD (z18).toNat zerO)))) (mulO (((g.getD (z11).toNat zerO))) (((g.getD (z18).toNat zerO)))) →
  ∀ z26 : Int,
  (z26 = mulE (((g.getD (z11).toNat zerO))) (((g.getD (z18).toNat zerO))) →
  (inB z17 z18 ∧
  (tbIn g (((g.getD (z11).toNat zerO))) (lset z17 z18 (mgetD eqO z4 z24)) ((w64 (z18 + 1))) ∧
  ((decide (0 ≤ opMu g ((w64 (z18 + 1))))) = true ∧
  (decide (opMu g ((w64 (z18 + 1))) < opMu g z18)) = true)))))))) ∧
 ((decide (z18 < (g.length : Int))) = false →
 (lfit 24 (lapp z10 [z17]) ∧
 (tbInv g (lapp z10 [z17]) ((w64 (z11 + 1))) ∧
 ((decide (0 ≤ opMu g ((w64 (z11 + 1))))) = true ∧
 (decide (opMu g ((w64 (z11 + 1))) < opMu g z11)) = true))))))))))))) ∧
((decide (z11 < (g.length : Int))) = false →
(z10, (0, ())) = (tabL g, (chkE g, ())))))))))))))))))))
theorem r_gTable (x : HL C_gTable.args) : runs (env0 [(46, C_gCheck.hid), (48, C_opMul.hid)] [(51, 3, { fix := [(.tmp 7, .list .op)], vars := [(.itmp 3, .map .op), (.tmp 9, .int .i64)], inv := fun y v => plInv y.1 v.1 v.2.1, mu := fun y v => opMu y.1 v.2.1 }), (27, 7, { fix := [(.tmp 21, .list .op)], vars := [(.tmp 6, .lists .int), (.tmp 23, .int .i64)], inv := fun y v => tbInv y.1 v.1 v.2.1, mu := fun y v => opMu y.1 v.2.1 }), (27, 11, { fix := [(.tmp 30, .list .op), (.cell 8, .agg .op)], vars := [(.itmp 9, .list .int), (.tmp 32, .int .i64)], inv := fun y v => tbIn y.1 y.2.1 v.1 v.2.1, mu := fun y v => opMu y.1 v.2.1 })] []) 400 27 C_gTable x = T_gTable x.1 := by kernel_rfl
theorem p_gTable (g : List Op3) (h0 : (Sh.list .op).okA g) : T_gTable g := by
  have hb : g.length * 96 ≤ room := h0.2
  refine ⟨trivial, fun e he => ⟨fun h => ?_, fun h => ?_⟩⟩
  · have hne : chkE g ≠ 0 := by rw [← he]; simpa using h
    unfold tabL; rw [if_neg hne, he]
  have hz : chkE g = 0 := by rw [← he]; simpa using h
  obtain ⟨hF, hnd, hone, hcl⟩ := chk_grp hz
  refine ⟨pl_init g, fun m j _ _ hP => ⟨fun hj => ?_, fun hj => ?_⟩⟩
  · have hj := of_decide_eq_true hj
    exact ⟨⟨hP.1, hj⟩, pl_next hb hP hj⟩
  have hm := pl_end hP (of_decide_eq_false hj)
  have h192 := chk_len hz
  refine ⟨⟨by omega, by omega, by simp⟩, fun r i _ _ hI hfit => ⟨fun hi => ?_, fun hi => ?_⟩⟩
  · have hi := of_decide_eq_true hi
    have ha := getD_mem hI.1 hi zerO
    refine ⟨⟨hI.1, hi⟩, ⟨by show (0 : Int) ≤ _; omega, ?_⟩, ⟨by omega, by omega, by simp [lrep], by simp⟩, fun row j _ _ hR hlen => ⟨fun hj => ?_, fun hj => ?_⟩⟩
    · show (lrep (g.length : Int) (0 : Int)).length * 8 ≤ 140737488355328
      simp [lrep]; omega
    · have hj := of_decide_eq_true hj
      have hbm := getD_mem hR.1 hj zerO
      refine ⟨⟨hR.1, hj⟩, trivial, fun p hp q hq => ?_⟩
      obtain ⟨c1, c2⟩ := cg_of hF hcl ha hbm
      have hpm : p = mulO (g.getD i.toNat zerO) (g.getD j.toNat zerO) := by rw [hp]; exact if_pos c1
      have hix : mgetD eqO m p = idxO g p := pl_get hnd hm (by rw [hpm]; exact c2)
      refine ⟨⟨hR.1, by rw [hR.2.2.1]; exact hj⟩, ?_⟩
      rw [hix, hpm]
      exact tb_in hb hR hj
    · exact ⟨by show (r ++ [row]).length * 24 ≤ 140737488355328; rw [hI.2.2]; simp; omega, tb_out hb hI hi hR (of_decide_eq_false hj)⟩
  · unfold tabL
    rw [if_pos hz, hI.2.2, take_end (of_decide_eq_false hi), hz]
theorem s_gTable : Sound Tryz.prog 27 C_gTable :=
  sound_of_eq (env0_ok (.cons s_gCheck.hid (.cons s_opMul.hid (.nil)))) (fun x => T_gTable x.1) r_gTable fun x ok hp => p_gTable x.1 ok.1
noncomputable def C_gInverses : Contract := { args := [.list .op], res := [.list .int, .int .i64], pre := fun _ => True, F := fun x => ((invL x.1 : List Int), (chkE x.1 : Int), ()) }
def T_gInverses (g : List Op3) : Prop :=
  (True ∧
∀ z1 : List (List Int),
(z1 = tabL g →
∀ z3 : Int,
(z3 = chkE g →
(((!(decide (z3 = 0))) = true →
 ([], (z3, ())) = (invL g, (chkE g, ()))) ∧
((!(decide (z3 = 0))) = false →
(True ∧
(True ∧
∀ z6 : Int,
(z6 = idxO g oneO →
(ivInv z1 z6 [] 0 ∧
∀ z8 : List Int,
∀ z9 : Int,
((decide ((-9223372036854775808) ≤ z9)) = true →
((decide (z9 ≤ 9223372036854775807)) = true →
(ivInv z1 z6 z8 z9 →
(lfit 8 z8 →
(((decide (z9 < (z1.length : Int))) = true →
 (inB z1 z9 ∧
 (True ∧
 ∀ z15 : Int,
 (z15 = idxI ((z1.getD (z9).toNat [])) z6 →
 (lfit 8 (lapp z8 [z15]) ∧
 (ivInv z1 z6 (lapp z8 [z15]) ((w64 (z9 + 1))) ∧
 ((decide (0 ≤ liMu z1 ((w64 (z9 + 1))))) = true ∧
 (decide (liMu z1 ((w64 (z9 + 1))) < liMu z1 z9)) = true))))))) ∧
((decide (z9 < (z1.length : Int))) = false →
(z8, (0, ())) = (invL g, (chkE g, ())))))))))))))))))
theorem r_gInverses (x : HL C_gInverses.args) : runs (env0 [(27, C_gTable.hid), (19, C_opOne), (54, C_gIndexO.hid), (55, C_gIndexI.hid)] [(30, 7, { fix := [(.tmp 21, .lists .int), (.tmp 6, .int .i64)], vars := [(.tmp 7, .list .int), (.tmp 23, .int .i64)], inv := fun y v => ivInv y.1 y.2.1 v.1 v.2.1, mu := fun y v => liMu y.1 v.2.1 })] []) 400 30 C_gInverses x = T_gInverses x.1 := by kernel_rfl
theorem p_gInverses (g : List Op3) (h0 : (Sh.list .op).okA g) : T_gInverses g := by
  refine ⟨trivial, fun t ht e he => ⟨fun h => ?_, fun h => ?_⟩⟩
  · have hne : chkE g ≠ 0 := by rw [← he]; simpa using h
    unfold invL; rw [if_neg hne, he]
  have hz : chkE g = 0 := by rw [← he]; simpa using h
  have h192 := chk_len hz
  have htl : t = g.map (rowO g) := by rw [ht]; unfold tabL; rw [if_pos hz]
  have hlen : t.length = g.length := by rw [htl]; simp
  refine ⟨trivial, trivial, fun x hx => ⟨⟨by omega, by omega, by simp⟩, fun l i _ _ hI hfit => ⟨fun hi => ?_, fun hi => ?_⟩⟩⟩
  · have hi := of_decide_eq_true hi
    have i0 := hI.1
    have e1 : w64 (i + 1) = i + 1 := w64_id (by omega) (by omega)
    refine ⟨⟨i0, hi⟩, trivial, fun k hk => ⟨?_, ?_⟩⟩
    · show (l ++ [k]).length * 8 ≤ 140737488355328
      rw [hI.2.2]; simp; omega
    · rw [e1]
      refine ⟨⟨by omega, by omega, ?_⟩, decide_eq_true (by unfold liMu; omega), decide_eq_true (by unfold liMu; omega)⟩
      rw [take_succ i0 hi [], List.map_append, ← hI.2.2, hk]
      rfl
  · unfold invL
    rw [if_pos hz, hI.2.2, take_end (of_decide_eq_false hi), htl, List.map_map, hx, hz]
    rfl
theorem s_gInverses : Sound Tryz.prog 30 C_gInverses :=
  sound_of_eq (env0_ok (.cons s_gTable.hid (.cons s_opOne (.cons s_gIndexO.hid (.cons s_gIndexI.hid (.nil)))))) (fun x => T_gInverses x.1) r_gInverses fun x ok hp => p_gInverses x.1 ok.1
end Go.Fx
