/-
  Contracts: gIndexO, gIndexI, gCheck.
-/
import Derived.Test.YtcadkndjcneedaaGreatK3
namespace Go.Fx
open Go Go.Proofs
set_option maxRecDepth 100000
set_option linter.unusedVariables false
set_option linter.unusedSimpArgs false
set_option linter.unusedSectionVars false
noncomputable def C_gIndexO : Contract := { args := [.list .op, .agg .op], res := [.int .i64], pre := fun _ => True, F := fun x => ((idxO x.1 x.2.1 : Int), ()) }
def T_gIndexO (g : List Op3) (o : Op3) : Prop :=
  (idInv g o 0 ∧
∀ z2 : Int,
((decide ((-9223372036854775808) ≤ z2)) = true →
((decide (z2 ≤ 9223372036854775807)) = true →
(idInv g o z2 →
(((decide (z2 < (g.length : Int))) = true →
 (inB g z2 ∧
 ((((decide (o.R.xx = (((g.getD (z2).toNat zerO)).R).xx)) && ((decide (o.R.xy = (((g.getD (z2).toNat zerO)).R).xy)) && ((decide (o.R.xz = (((g.getD (z2).toNat zerO)).R).xz)) && ((decide (o.R.yx = (((g.getD (z2).toNat zerO)).R).yx)) && ((decide (o.R.yy = (((g.getD (z2).toNat zerO)).R).yy)) && ((decide (o.R.yz = (((g.getD (z2).toNat zerO)).R).yz)) && ((decide (o.R.zx = (((g.getD (z2).toNat zerO)).R).zx)) && ((decide (o.R.zy = (((g.getD (z2).toNat zerO)).R).zy)) && ((decide (o.R.zz = (((g.getD (z2).toNat zerO)).R).zz)) && ((decide (o.T.x = (((g.getD (z2).toNat zerO)).T).x)) && ((decide (o.T.y = (((g.getD (z2).toNat zerO)).T).y)) && ((decide (o.T.z = (((g.getD (z2).toNat zerO)).T).z)) && true)))))))))))) = true →
  (z2, ()) = (idxO g o, ())) ∧
 (((decide (o.R.xx = (((g.getD (z2).toNat zerO)).R).xx)) && ((decide (o.R.xy = (((g.getD (z2).toNat zerO)).R).xy)) && ((decide (o.R.xz = (((g.getD (z2).toNat zerO)).R).xz)) && ((decide (o.R.yx = (((g.getD (z2).toNat zerO)).R).yx)) && ((decide (o.R.yy = (((g.getD (z2).toNat zerO)).R).yy)) && ((decide (o.R.yz = (((g.getD (z2).toNat zerO)).R).yz)) && ((decide (o.R.zx = (((g.getD (z2).toNat zerO)).R).zx)) && ((decide (o.R.zy = (((g.getD (z2).toNat zerO)).R).zy)) && ((decide (o.R.zz = (((g.getD (z2).toNat zerO)).R).zz)) && ((decide (o.T.x = (((g.getD (z2).toNat zerO)).T).x)) && ((decide (o.T.y = (((g.getD (z2).toNat zerO)).T).y)) && ((decide (o.T.z = (((g.getD (z2).toNat zerO)).T).z)) && true)))))))))))) = false →
 (idInv g o ((w64 (z2 + 1))) ∧
 ((decide (0 ≤ opMu g ((w64 (z2 + 1))))) = true ∧
 (decide (opMu g ((w64 (z2 + 1))) < opMu g z2)) = true)))))) ∧
((decide (z2 < (g.length : Int))) = false →
((-1), ()) = (idxO g o, ())))))))
theorem r_gIndexO (x : HL C_gIndexO.args) : runs (env0 [] [(54, 2, { fix := [(.tmp 6, .list .op), (.cell 3, .agg .op)], vars := [(.tmp 8, .int .i64)], inv := fun y v => idInv y.1 y.2.1 v.1, mu := fun y v => opMu y.1 v.1 })] []) 400 54 C_gIndexO x = T_gIndexO x.1 x.2.1 := by kernel_rfl
theorem p_gIndexO (g : List Op3) (o : Op3) (h0 : (Sh.list .op).okA g) (h1 : (Sh.agg .op).okA o) : T_gIndexO g o := by
  have hb : g.length * 96 ≤ room := h0.2
  refine ⟨⟨by omega, by omega, fun k hk => by simp at hk⟩, fun i _ _ hI => ⟨fun hi => ?_, fun hi => by rw [show idxO g o = -1 from id_miss hI (of_decide_eq_false hi)]⟩⟩
  have hi := of_decide_eq_true hi
  rw [eqOc']
  refine ⟨⟨hI.1, hi⟩, fun h => ?_, fun h => ?_⟩
  · rw [show idxO g o = i from id_hit hI hi _ (of_decide_eq_true h).symm]
  · have := id_next (b := 96) (by decide) hb hI hi _ (fun e => of_decide_eq_false h e.symm)
    exact ⟨this.1, decide_eq_true this.2.1, decide_eq_true this.2.2⟩
theorem s_gIndexO : Sound Tryz.prog 54 C_gIndexO :=
  sound_of_eq (env0_ok (.nil)) (fun x => T_gIndexO x.1 x.2.1) r_gIndexO fun x ok hp => p_gIndexO x.1 x.2.1 ok.1 ok.2.1
noncomputable def C_gIndexI : Contract := { args := [.list .int, .int .i64], res := [.int .i64], pre := fun _ => True, F := fun x => ((idxI x.1 x.2.1 : Int), ()) }
def T_gIndexI (l : List Int) (x : Int) : Prop :=
  (idIn l x 0 ∧
∀ z2 : Int,
((decide ((-9223372036854775808) ≤ z2)) = true →
((decide (z2 ≤ 9223372036854775807)) = true →
(idIn l x z2 →
(((decide (z2 < (l.length : Int))) = true →
 (inB l z2 ∧
 (((decide (x = (l.getD (z2).toNat 0))) = true →
  (z2, ()) = (idxI l x, ())) ∧
 ((decide (x = (l.getD (z2).toNat 0))) = false →
 (idIn l x ((w64 (z2 + 1))) ∧
 ((decide (0 ≤ inMu l ((w64 (z2 + 1))))) = true ∧
 (decide (inMu l ((w64 (z2 + 1))) < inMu l z2)) = true)))))) ∧
((decide (z2 < (l.length : Int))) = false →
((-1), ()) = (idxI l x, ())))))))
theorem r_gIndexI (x : HL C_gIndexI.args) : runs (env0 [] [(55, 2, { fix := [(.tmp 6, .list .int), (.tmp 1, .int .i64)], vars := [(.tmp 8, .int .i64)], inv := fun y v => idIn y.1 y.2.1 v.1, mu := fun y v => inMu y.1 v.1 })] []) 400 55 C_gIndexI x = T_gIndexI x.1 x.2.1 := by kernel_rfl
theorem p_gIndexI (l : List Int) (x : Int) (h0 : (Sh.list .int).okA l) (h1 : (Sh.int .i64).okA x) : T_gIndexI l x := by
  have hb : l.length * 8 ≤ room := h0.2
  refine ⟨⟨by omega, by omega, fun k hk => by simp at hk⟩, fun i _ _ hI => ⟨fun hi => ?_, fun hi => by rw [show idxI l x = -1 from id_miss hI (of_decide_eq_false hi)]⟩⟩
  have hi := of_decide_eq_true hi
  refine ⟨⟨hI.1, hi⟩, fun h => ?_, fun h => ?_⟩
  · rw [show idxI l x = i from id_hit hI hi _ (of_decide_eq_true h).symm]
  · have := id_next (b := 8) (by decide) hb hI hi _ (fun e => of_decide_eq_false h e.symm)
    exact ⟨this.1, decide_eq_true this.2.1, decide_eq_true this.2.2⟩
theorem s_gIndexI : Sound Tryz.prog 55 C_gIndexI :=
  sound_of_eq (env0_ok (.nil)) (fun x => T_gIndexI x.1 x.2.1) r_gIndexI fun x ok hp => p_gIndexI x.1 x.2.1 ok.1 ok.2.1
noncomputable def C_gCheck : Contract := { args := [.list .op], res := [.int .i64], pre := fun _ => True, F := fun x => ((chkE x.1 : Int), ()) }
def T_gCheck (g : List Op3) : Prop :=
  (True ∧
∀ z1 : Int,
(z1 = gE g →
(((!(decide (z1 = 0))) = true →
 (z1, ()) = (chkE g, ())) ∧
((!(decide (z1 = 0))) = false →
(stInv g 1 ∧
∀ z4 : Int,
((decide ((-9223372036854775808) ≤ z4)) = true →
((decide (z4 ≤ 9223372036854775807)) = true →
(stInv g z4 →
(((decide (z4 < (g.length : Int))) = true →
 (inB g ((w64 (z4 - 1))) ∧
 (inB g z4 ∧
 (True ∧
 (((decide (0 ≤ cmpO (((g.getD ((w64 (z4 - 1))).toNat zerO))) (((g.getD (z4).toNat zerO))))) = true →
  (5, ()) = (chkE g, ())) ∧
 ((decide (0 ≤ cmpO (((g.getD ((w64 (z4 - 1))).toNat zerO))) (((g.getD (z4).toNat zerO))))) = false →
 (stInv g ((w64 (z4 + 1))) ∧
 ((decide (0 ≤ opMu g ((w64 (z4 + 1))))) = true ∧
 (decide (opMu g ((w64 (z4 + 1))) < opMu g z4)) = true)))))))) ∧
((decide (z4 < (g.length : Int))) = false →
(plInv g [] 0 ∧
∀ z9 : List (Op3 × Int),
∀ z10 : Int,
((decide ((-9223372036854775808) ≤ z10)) = true →
((decide (z10 ≤ 9223372036854775807)) = true →
(plInv g z9 z10 →
(((decide (z10 < (g.length : Int))) = true →
 (inB g z10 ∧
 (plInv g ((mset eqO z9 (((g.getD (z10).toNat zerO))) z10)) ((w64 (z10 + 1))) ∧
 ((decide (0 ≤ opMu g ((w64 (z10 + 1))))) = true ∧
 (decide (opMu g ((w64 (z10 + 1))) < opMu g z10)) = true)))) ∧
((decide (z10 < (g.length : Int))) = false →
(True ∧
(((!(mhas eqO z9 oneO)) = true →
 (5, ()) = (chkE g, ())) ∧
((!(mhas eqO z9 oneO)) = false →
(cgInv g 0 ∧
∀ z16 : Int,
((decide ((-9223372036854775808) ≤ z16)) = true →
((decide (z16 ≤ 9223372036854775807)) = true →
(cgInv g z16 →
(((decide (z16 < (g.length : Int))) = true →
 (inB g z16 ∧
 (cgIn g (((g.getD (z16).toNat zerO))) 0 ∧
 ∀ z21 : Int,
 ((decide ((-9223372036854775808) ≤ z21)) = true →
 ((decide (z21 ≤ 9223372036854775807)) = true →
 (cgIn g (((g.getD (z16).toNat zerO))) z21 →
 (((decide (z21 < (g.length : Int))) = true →
  (inB g z21 ∧
  (True ∧
  ∀ z26 : Op3,
  (z26 = selO (mulE (((g.getD (z16).toNat zerO))) (((g.getD (z21).toNat zerO)))) (mulO (((g.getD (z16).toNat zerO))) (((g.getD (z21).toNat zerO)))) →
  ∀ z28 : Int,
  (z28 = mulE (((g.getD (z16).toNat zerO))) (((g.getD (z21).toNat zerO))) →
  (((!(decide (z28 = 0))) = true →
   (5, ()) = (chkE g, ())) ∧
  ((!(decide (z28 = 0))) = false →
  (((!(mhas eqO z9 z26)) = true →
   (5, ()) = (chkE g, ())) ∧
  ((!(mhas eqO z9 z26)) = false →
  (cgIn g (((g.getD (z16).toNat zerO))) ((w64 (z21 + 1))) ∧
  ((decide (0 ≤ opMu g ((w64 (z21 + 1))))) = true ∧
  (decide (opMu g ((w64 (z21 + 1))) < opMu g z21)) = true))))))))))) ∧
 ((decide (z21 < (g.length : Int))) = false →
 (cgInv g ((w64 (z16 + 1))) ∧
 ((decide (0 ≤ opMu g ((w64 (z16 + 1))))) = true ∧
 (decide (opMu g ((w64 (z16 + 1))) < opMu g z16)) = true)))))))))) ∧
((decide (z16 < (g.length : Int))) = false →
(0, ()) = (chkE g, ()))))))))))))))))))))))))))
theorem r_gCheck (x : HL C_gCheck.args) : runs (env0 [(47, C_gmaps.hid), (19, C_opOne), (50, C_opCompare.hid), (48, C_opMul.hid)] [(46, 5, { fix := [(.tmp 0, .list .op)], vars := [(.tmp 4, .int .i64)], inv := fun y v => stInv y.1 v.1, mu := fun y v => opMu y.1 v.1 }), (51, 3, { fix := [(.tmp 7, .list .op)], vars := [(.itmp 3, .map .op), (.tmp 9, .int .i64)], inv := fun y v => plInv y.1 v.1 v.2.1, mu := fun y v => opMu y.1 v.2.1 }), (46, 14, { fix := [(.tmp 48, .list .op)], vars := [(.tmp 50, .int .i64)], inv := fun y v => cgInv y.1 v.1, mu := fun y v => opMu y.1 v.1 }), (46, 17, { fix := [(.tmp 54, .list .op), (.cell 9, .agg .op)], vars := [(.tmp 56, .int .i64)], inv := fun y v => cgIn y.1 y.2.1 v.1, mu := fun y v => opMu y.1 v.1 })] []) 400 46 C_gCheck x = T_gCheck x.1 := by kernel_rfl
theorem p_gCheck (g : List Op3) (h0 : (Sh.list .op).okA g) : T_gCheck g := by
  have hb : g.length * 96 ≤ room := h0.2
  refine ⟨trivial, fun e he => ⟨fun h => ?_, fun h => ?_⟩⟩
  · have hne : gE g ≠ 0 := by rw [← he]; simpa using h
    unfold chkE; rw [if_neg hne, he]
  have hz : gE g = 0 := by rw [← he]; simpa using h
  have hF := gE_frm hz
  have five : grpB g ≠ true → (5, ()) = (chkE g, ()) := fun hn => by unfold chkE; rw [if_pos hz, if_neg hn]
  refine ⟨st_init g, fun i _ _ hI => ⟨fun hi => ?_, fun hi => ?_⟩⟩
  · have hi := of_decide_eq_true hi
    have e1 := st_prev hb hI hi
    refine ⟨by rw [e1]; exact ⟨by have := hI.1; omega, by omega⟩, ⟨by have := hI.1; omega, hi⟩, trivial, fun hc => five fun hg => ?_, fun hc => ?_⟩
    · exact st_bad hI hi hg (by rw [← e1]; exact of_decide_eq_true hc)
    · exact st_next hb hI hi (by rw [← e1]; exact of_decide_eq_false hc)
  have hst := st_end hI (of_decide_eq_false hi)
  refine ⟨pl_init g, fun m j _ _ hP => ⟨fun hj => ?_, fun hj => ?_⟩⟩
  · have hj := of_decide_eq_true hj
    exact ⟨⟨hP.1, hj⟩, pl_next hb hP hj⟩
  have hm := pl_end hP (of_decide_eq_false hj)
  refine ⟨trivial, fun ho => five fun hg => ?_, fun ho => ?_⟩
  · have h1 : mhas eqO m oneO = true := (hm.1 oneO).2 (memO_iff.1 (grpB_iff.1 hg).2.1)
    rw [h1] at ho; cases ho
  have hone : oneO ∈ g := (hm.1 oneO).1 (by cases h1 : mhas eqO m oneO with | true => rfl | false => rw [h1] at ho; cases ho)
  refine ⟨⟨by omega, by omega, by simp⟩, fun i _ _ hC => ⟨fun hi => ?_, fun hi => ?_⟩⟩
  · have hi := of_decide_eq_true hi
    have ha := getD_mem hC.1 hi zerO
    refine ⟨⟨hC.1, hi⟩, ⟨by omega, by omega, by simp⟩, fun j _ _ hD => ⟨fun hj => ?_, fun hj => ?_⟩⟩
    · have hj := of_decide_eq_true hj
      have hbm := getD_mem hD.1 hj zerO
      refine ⟨⟨hD.1, hj⟩, trivial, fun p hp q hq => ⟨fun hn => five fun hg => ?_, fun hn => ⟨fun hn2 => five fun hg => ?_, fun hn2 => ?_⟩⟩⟩
      · have := (cg_of hF (clsB_iff.1 (grpB_iff.1 hg).2.2) ha hbm).1
        have hq' : q = 0 := hq.trans this
        rw [hq'] at hn
        cases hn
      · obtain ⟨c1, c2⟩ := cg_of hF (clsB_iff.1 (grpB_iff.1 hg).2.2) ha hbm
        have hq0 : mulE (g.getD i.toNat zerO) (g.getD j.toNat zerO) = 0 := c1
        have hpm : p = mulO (g.getD i.toNat zerO) (g.getD j.toNat zerO) := by rw [hp]; exact if_pos hq0
        have : mhas eqO m p = true := (hm.1 p).2 (by rw [hpm]; exact c2)
        rw [this] at hn2; cases hn2
      · have hq0 : mulE (g.getD i.toNat zerO) (g.getD j.toNat zerO) = 0 := hq.symm.trans (by simpa using hn)
        have hpm : p = mulO (g.getD i.toNat zerO) (g.getD j.toNat zerO) := by rw [hp]; exact if_pos hq0
        have hin : mulO (g.getD i.toNat zerO) (g.getD j.toNat zerO) ∈ g := by
          rw [← hpm]
          exact (hm.1 p).1 (by cases h1 : mhas eqO m p with | true => rfl | false => rw [h1] at hn2; cases hn2)
        exact cg_in hb hD hj ⟨hq0, hin⟩
    · exact cg_out hb hC hi hD (of_decide_eq_false hj)
  · rw [chk_ok hz hst hone hC (of_decide_eq_false hi)]
theorem s_gCheck : Sound Tryz.prog 46 C_gCheck :=
  sound_of_eq (env0_ok (.cons s_gmaps.hid (.cons s_opOne (.cons s_opCompare.hid (.cons s_opMul.hid (.nil)))))) (fun x => T_gCheck x.1) r_gCheck fun x ok hp => p_gCheck x.1 ok.1
end Go.Fx
