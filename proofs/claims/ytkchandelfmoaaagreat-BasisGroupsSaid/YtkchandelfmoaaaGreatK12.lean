/-
  Contracts: r5DocCheck, r5Same.
-/
import Derived.Test.YtkchandelfmoaaaGreatK11
namespace Go.Fx
open Go Go.Proofs
set_option maxRecDepth 100000
set_option linter.unusedVariables false
set_option linter.unusedSimpArgs false
set_option linter.unusedSectionVars false
noncomputable def C_r5DocCheck : Contract := { args := [.list .op], res := [.int .i64], pre := fun _ => True, F := fun x => ((chkE x.1 : Int), ()) }
def T_r5DocCheck (g : List Op3) : Prop :=
  (((decide (192 < (g.length : Int))) = true →
 (2, ()) = (chkE g, ())) ∧
((decide (192 < (g.length : Int))) = false →
(True ∧
∀ z2 : Int,
(z2 = errL g →
(((!(decide (z2 = 0))) = true →
 (z2, ()) = (chkE g, ())) ∧
((!(decide (z2 = 0))) = false →
(stInv g 1 ∧
∀ z5 : Int,
((decide ((-9223372036854775808) ≤ z5)) = true →
((decide (z5 ≤ 9223372036854775807)) = true →
(stInv g z5 →
(((decide (z5 < (g.length : Int))) = true →
 (inB g ((w64 (z5 - 1))) ∧
 (inB g z5 ∧
 (True ∧
 (((decide (0 ≤ cmpO (((g.getD ((w64 (z5 - 1))).toNat zerO))) (((g.getD (z5).toNat zerO))))) = true →
  (5, ()) = (chkE g, ())) ∧
 ((decide (0 ≤ cmpO (((g.getD ((w64 (z5 - 1))).toNat zerO))) (((g.getD (z5).toNat zerO))))) = false →
 (stInv g ((w64 (z5 + 1))) ∧
 ((decide (0 ≤ opMu g ((w64 (z5 + 1))))) = true ∧
 (decide (opMu g ((w64 (z5 + 1))) < opMu g z5)) = true)))))))) ∧
((decide (z5 < (g.length : Int))) = false →
(True ∧
(True ∧
∀ z10 : Int,
(z10 = idxO g oneO →
(((decide (z10 < 0)) = true →
 (5, ()) = (chkE g, ())) ∧
((decide (z10 < 0)) = false →
(cgInv g 0 ∧
∀ z13 : Int,
((decide ((-9223372036854775808) ≤ z13)) = true →
((decide (z13 ≤ 9223372036854775807)) = true →
(cgInv g z13 →
(((decide (z13 < (g.length : Int))) = true →
 (inB g z13 ∧
 (cgIn g (((g.getD (z13).toNat zerO))) 0 ∧
 ∀ z18 : Int,
 ((decide ((-9223372036854775808) ≤ z18)) = true →
 ((decide (z18 ≤ 9223372036854775807)) = true →
 (cgIn g (((g.getD (z13).toNat zerO))) z18 →
 (((decide (z18 < (g.length : Int))) = true →
  (inB g z18 ∧
  (mulPre (((g.getD (z13).toNat zerO))) (((g.getD (z18).toNat zerO))) ∧
  ∀ z23 : Op3,
  (z23 = mulO (((g.getD (z13).toNat zerO))) (((g.getD (z18).toNat zerO))) →
  (True ∧
  ∀ z25 : Int,
  (z25 = idxO g z23 →
  (((decide (z25 < 0)) = true →
   (5, ()) = (chkE g, ())) ∧
  ((decide (z25 < 0)) = false →
  (cgIn g (((g.getD (z13).toNat zerO))) ((w64 (z18 + 1))) ∧
  ((decide (0 ≤ opMu g ((w64 (z18 + 1))))) = true ∧
  (decide (opMu g ((w64 (z18 + 1))) < opMu g z18)) = true)))))))))) ∧
 ((decide (z18 < (g.length : Int))) = false →
 (cgInv g ((w64 (z13 + 1))) ∧
 ((decide (0 ≤ opMu g ((w64 (z13 + 1))))) = true ∧
 (decide (opMu g ((w64 (z13 + 1))) < opMu g z13)) = true)))))))))) ∧
((decide (z13 < (g.length : Int))) = false →
(0, ()) = (chkE g, ()))))))))))))))))))))))))
theorem r_r5DocCheck (x : HL C_r5DocCheck.args) : runs (env0 [(38, C_r5Maps.hid), (29, C_r5Compare.hid), (54, C_r5One), (53, C_r5Place.hid), (55, C_r5Mul.hid)] [(26, 7, { fix := [(.tmp 0, .list .op)], vars := [(.tmp 4, .int .i64)], inv := fun y v => stInv y.1 v.1, mu := fun y v => opMu y.1 v.1 }), (26, 14, { fix := [(.tmp 38, .list .op)], vars := [(.tmp 40, .int .i64)], inv := fun y v => cgInv y.1 v.1, mu := fun y v => opMu y.1 v.1 }), (26, 17, { fix := [(.tmp 44, .list .op), (.cell 6, .agg .op)], vars := [(.tmp 46, .int .i64)], inv := fun y v => cgIn y.1 y.2.1 v.1, mu := fun y v => opMu y.1 v.1 })] []) 400 26 C_r5DocCheck x = T_r5DocCheck x.1 := by kernel_rfl
theorem p_r5DocCheck (g : List Op3) (h0 : (Sh.list .op).okA g) : T_r5DocCheck g := by
  have hb : g.length * 96 ≤ room := h0.2
  refine ⟨fun h => ?_, fun h => ⟨trivial, fun e he => ⟨fun h2 => ?_, fun h2 => ?_⟩⟩⟩
  · have hg : gE g = 2 := by unfold gE; rw [if_pos (of_decide_eq_true h)]
    unfold chkE; rw [hg]; rfl
  · have hg : gE g = errL g := by unfold gE; rw [if_neg (of_decide_eq_false h)]
    have hne : gE g ≠ 0 := by rw [hg, ← he]; simpa using h2
    unfold chkE; rw [if_neg hne, hg, he]
  have hg : gE g = errL g := by unfold gE; rw [if_neg (of_decide_eq_false h)]
  have hz : gE g = 0 := by rw [hg, ← he]; simpa using h2
  have hF := gE_frm hz
  have five : grpB g ≠ true → (5, ()) = (chkE g, ()) := fun hn => by unfold chkE; rw [if_pos hz, if_neg hn]
  refine ⟨st_init g, fun i _ _ hI => ⟨fun hi => ?_, fun hi => ?_⟩⟩
  · have hi := of_decide_eq_true hi
    have e1 := st_prev hb hI hi
    refine ⟨by rw [e1]; exact ⟨by have := hI.1; omega, by omega⟩, ⟨by have := hI.1; omega, hi⟩, trivial, fun hc => five fun hg => ?_, fun hc => ?_⟩
    · exact st_bad hI hi hg (by rw [← e1]; exact of_decide_eq_true hc)
    · exact st_next hb hI hi (by rw [← e1]; exact of_decide_eq_false hc)
  have hst := st_end hI (of_decide_eq_false hi)
  refine ⟨trivial, trivial, fun k hk => ⟨fun ho => five fun hg => ?_, fun ho => ?_⟩⟩
  · have h1 : oneO ∉ g := idxD_neg.1 (by have := of_decide_eq_true ho; rw [hk] at this; exact this)
    exact h1 (memO_iff.1 (grpB_iff.1 hg).2.1)
  have hone : oneO ∈ g := Classical.byContradiction fun e => by
    have : idxO g oneO = -1 := idxD_none e
    rw [hk, this] at ho; cases ho
  refine ⟨⟨by omega, by omega, by simp⟩, fun i _ _ hC => ⟨fun hi => ?_, fun hi => ?_⟩⟩
  · have hi := of_decide_eq_true hi
    have ha := getD_mem hC.1 hi zerO
    refine ⟨⟨hC.1, hi⟩, ⟨by omega, by omega, by simp⟩, fun j _ _ hD => ⟨fun hj => ?_, fun hj => ?_⟩⟩
    · have hj := of_decide_eq_true hj
      have hbm := getD_mem hD.1 hj zerO
      refine ⟨⟨hD.1, hj⟩, frm_pre (hF _ ha) (hF _ hbm), fun p hp => ⟨trivial, fun q hq => ⟨fun hn => five fun hg => ?_, fun hn => ?_⟩⟩⟩
      · have h1 := (cg_of hF (clsB_iff.1 (grpB_iff.1 hg).2.2) ha hbm).2
        have h2 : p ∉ g := idxD_neg.1 (by have := of_decide_eq_true hn; rw [hq] at this; exact this)
        rw [hp] at h2
        exact h2 h1
      · have hin : mulO (g.getD i.toNat zerO) (g.getD j.toNat zerO) ∈ g := Classical.byContradiction fun e => by
          have : idxO g (mulO (g.getD i.toNat zerO) (g.getD j.toNat zerO)) = -1 := idxD_none e
          rw [hq, hp, this] at hn; cases hn
        refine cg_in hb hD hj ⟨?_, hin⟩
        rw [mulE_frm (hF _ ha) (hF _ hbm)]
        exact errM_B (by decide) (hF _ hin).B
    · exact cg_out hb hC hi hD (of_decide_eq_false hj)
  · rw [chk_ok hz hst hone hC (of_decide_eq_false hi)]
theorem s_r5DocCheck : Sound Tryz.prog 26 C_r5DocCheck :=
  sound_of_eq (env0_ok (.cons s_r5Maps.hid (.cons s_r5Compare.hid (.cons s_r5One (.cons s_r5Place.hid (.cons s_r5Mul.hid (.nil))))))) (fun x => T_r5DocCheck x.1) r_r5DocCheck fun x ok hp => p_r5DocCheck x.1 ok.1
noncomputable def C_r5Same : Contract := { args := [.list .op, .list .op], res := [.bool], pre := fun _ => True, F := fun x => ((smO x.1 x.2.1 : Bool), ()) }
def T_r5Same (a : List Op3) (b : List Op3) : Prop :=
  (((!(decide ((a.length : Int) = (b.length : Int)))) = true →
 (false, ()) = (smO a b, ())) ∧
((!(decide ((a.length : Int) = (b.length : Int)))) = false →
(smInv a b 0 ∧
∀ z3 : Int,
((decide ((-9223372036854775808) ≤ z3)) = true →
((decide (z3 ≤ 9223372036854775807)) = true →
(smInv a b z3 →
(((decide (z3 < (a.length : Int))) = true →
 (inB a z3 ∧
 (inB b z3 ∧
 (((!((decide ((((a.getD (z3).toNat zerO)).R).xx = (((b.getD (z3).toNat zerO)).R).xx)) && ((decide ((((a.getD (z3).toNat zerO)).R).xy = (((b.getD (z3).toNat zerO)).R).xy)) && ((decide ((((a.getD (z3).toNat zerO)).R).xz = (((b.getD (z3).toNat zerO)).R).xz)) && ((decide ((((a.getD (z3).toNat zerO)).R).yx = (((b.getD (z3).toNat zerO)).R).yx)) && ((decide ((((a.getD (z3).toNat zerO)).R).yy = (((b.getD (z3).toNat zerO)).R).yy)) && ((decide ((((a.getD (z3).toNat zerO)).R).yz = (((b.getD (z3).toNat zerO)).R).yz)) && ((decide ((((a.getD (z3).toNat zerO)).R).zx = (((b.getD (z3).toNat zerO)).R).zx)) && ((decide ((((a.getD (z3).toNat zerO)).R).zy = (((b.getD (z3).toNat zerO)).R).zy)) && ((decide ((((a.getD (z3).toNat zerO)).R).zz = (((b.getD (z3).toNat zerO)).R).zz)) && ((decide ((((a.getD (z3).toNat zerO)).T).x = (((b.getD (z3).toNat zerO)).T).x)) && ((decide ((((a.getD (z3).toNat zerO)).T).y = (((b.getD (z3).toNat zerO)).T).y)) && ((decide ((((a.getD (z3).toNat zerO)).T).z = (((b.getD (z3).toNat zerO)).T).z)) && true))))))))))))) = true →
  (false, ()) = (smO a b, ())) ∧
 ((!((decide ((((a.getD (z3).toNat zerO)).R).xx = (((b.getD (z3).toNat zerO)).R).xx)) && ((decide ((((a.getD (z3).toNat zerO)).R).xy = (((b.getD (z3).toNat zerO)).R).xy)) && ((decide ((((a.getD (z3).toNat zerO)).R).xz = (((b.getD (z3).toNat zerO)).R).xz)) && ((decide ((((a.getD (z3).toNat zerO)).R).yx = (((b.getD (z3).toNat zerO)).R).yx)) && ((decide ((((a.getD (z3).toNat zerO)).R).yy = (((b.getD (z3).toNat zerO)).R).yy)) && ((decide ((((a.getD (z3).toNat zerO)).R).yz = (((b.getD (z3).toNat zerO)).R).yz)) && ((decide ((((a.getD (z3).toNat zerO)).R).zx = (((b.getD (z3).toNat zerO)).R).zx)) && ((decide ((((a.getD (z3).toNat zerO)).R).zy = (((b.getD (z3).toNat zerO)).R).zy)) && ((decide ((((a.getD (z3).toNat zerO)).R).zz = (((b.getD (z3).toNat zerO)).R).zz)) && ((decide ((((a.getD (z3).toNat zerO)).T).x = (((b.getD (z3).toNat zerO)).T).x)) && ((decide ((((a.getD (z3).toNat zerO)).T).y = (((b.getD (z3).toNat zerO)).T).y)) && ((decide ((((a.getD (z3).toNat zerO)).T).z = (((b.getD (z3).toNat zerO)).T).z)) && true))))))))))))) = false →
 (smInv a b ((w64 (z3 + 1))) ∧
 ((decide (0 ≤ opMu a ((w64 (z3 + 1))))) = true ∧
 (decide (opMu a ((w64 (z3 + 1))) < opMu a z3)) = true))))))) ∧
((decide (z3 < (a.length : Int))) = false →
(true, ()) = (smO a b, ())))))))))
theorem r_r5Same (x : HL C_r5Same.args) : runs (env0 [] [(10, 4, { fix := [(.tmp 0, .list .op), (.tmp 1, .list .op)], vars := [(.tmp 13, .int .i64)], inv := fun y v => smInv y.1 y.2.1 v.1, mu := fun y v => opMu y.1 v.1 })] []) 400 10 C_r5Same x = T_r5Same x.1 x.2.1 := by kernel_rfl
theorem p_r5Same (a : List Op3) (b : List Op3) (h0 : (Sh.list .op).okA a) (h1 : (Sh.list .op).okA b) : T_r5Same a b := by
  have hb : a.length * 96 ≤ room := h0.2
  unfold T_r5Same smO
  refine ⟨fun h => ?_, fun h => ?_⟩
  · have : a ≠ b := fun e => by rw [e] at h; simp at h
    rw [decide_eq_false this]
  have hl : a.length = b.length := by have : (a.length : Int) = b.length := by simpa using h
                                      omega
  refine ⟨⟨hl, by omega, by omega, fun k hk => by simp at hk⟩, fun i _ _ hI => ⟨fun hi => ?_, fun hi => ?_⟩⟩
  · have hi := of_decide_eq_true hi
    obtain ⟨e1, e2, e3⟩ := opMu_next hb hI.2.1 hi
    rw [eqOc']
    refine ⟨⟨hI.2.1, hi⟩, ⟨hI.2.1, by omega⟩, fun h1 => ?_, fun h1 => ⟨?_, e2, e3⟩⟩
    · rw [decide_eq_false (sm_ne (by simpa using h1))]
    · rw [e1]; exact sm_next hI hi (by simpa using h1)
  · rw [decide_eq_true (sm_end hI (of_decide_eq_false hi))]
theorem s_r5Same : Sound Tryz.prog 10 C_r5Same :=
  sound_of_eq (env0_ok (.nil)) (fun x => T_r5Same x.1 x.2.1) r_r5Same fun x ok hp => p_r5Same x.1 x.2.1 ok.1 ok.2.1
end Go.Fx
