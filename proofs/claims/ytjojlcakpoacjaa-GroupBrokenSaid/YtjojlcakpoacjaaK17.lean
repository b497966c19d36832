/-
  Contracts: r5Rotations, r5DocRotations, r5DocCentring.
-/
import Derived.Test.YtjojlcakpoacjaaK16
namespace Go.Fx
open Go Go.Proofs
set_option maxRecDepth 100000
set_option linter.unusedVariables false
set_option linter.unusedSimpArgs false
set_option linter.unusedSectionVars false
noncomputable def C_r5Rotations : Contract := { args := [.list .op], res := [.list .mat], pre := fun _ => True, F := fun x => ((rrL x.1 : List M3), ()) }
def T_r5Rotations (g : List Op3) : Prop :=
  (rrInv g [] 0 ∧
∀ z1 : List M3,
∀ z2 : Int,
((decide ((-9223372036854775808) ≤ z2)) = true →
((decide (z2 ≤ 9223372036854775807)) = true →
(rrInv g z1 z2 →
(lfit 72 z1 →
(((decide (z2 < (g.length : Int))) = true →
 (inB g z2 ∧
 (((decide (z2 = 0)) = true →
  (lfit 72 (lapp z1 ([((g.getD (z2).toNat zerO)).R])) ∧
  (rrInv g (lapp z1 ([((g.getD (z2).toNat zerO)).R])) ((w64 (z2 + 1))) ∧
  ((decide (0 ≤ opMu g ((w64 (z2 + 1))))) = true ∧
  (decide (opMu g ((w64 (z2 + 1))) < opMu g z2)) = true)))) ∧
 ((decide (z2 = 0)) = false →
 (inB g ((w64 (z2 - 1))) ∧
 (((!((decide ((((g.getD ((w64 (z2 - 1))).toNat zerO)).R).xx = (((g.getD (z2).toNat zerO)).R).xx)) && ((decide ((((g.getD ((w64 (z2 - 1))).toNat zerO)).R).xy = (((g.getD (z2).toNat zerO)).R).xy)) && ((decide ((((g.getD ((w64 (z2 - 1))).toNat zerO)).R).xz = (((g.getD (z2).toNat zerO)).R).xz)) && ((decide ((((g.getD ((w64 (z2 - 1))).toNat zerO)).R).yx = (((g.getD (z2).toNat zerO)).R).yx)) && ((decide ((((g.getD ((w64 (z2 - 1))).toNat zerO)).R).yy = (((g.getD (z2).toNat zerO)).R).yy)) && ((decide ((((g.getD ((w64 (z2 - 1))).toNat zerO)).R).yz = (((g.getD (z2).toNat zerO)).R).yz)) && ((decide ((((g.getD ((w64 (z2 - 1))).toNat zerO)).R).zx = (((g.getD (z2).toNat zerO)).R).zx)) && ((decide ((((g.getD ((w64 (z2 - 1))).toNat zerO)).R).zy = (((g.getD (z2).toNat zerO)).R).zy)) && ((decide ((((g.getD ((w64 (z2 - 1))).toNat zerO)).R).zz = (((g.getD (z2).toNat zerO)).R).zz)) && true)))))))))) = true →
  (lfit 72 (lapp z1 ([((g.getD (z2).toNat zerO)).R])) ∧
  (rrInv g (lapp z1 ([((g.getD (z2).toNat zerO)).R])) ((w64 (z2 + 1))) ∧
  ((decide (0 ≤ opMu g ((w64 (z2 + 1))))) = true ∧
  (decide (opMu g ((w64 (z2 + 1))) < opMu g z2)) = true)))) ∧
 ((!((decide ((((g.getD ((w64 (z2 - 1))).toNat zerO)).R).xx = (((g.getD (z2).toNat zerO)).R).xx)) && ((decide ((((g.getD ((w64 (z2 - 1))).toNat zerO)).R).xy = (((g.getD (z2).toNat zerO)).R).xy)) && ((decide ((((g.getD ((w64 (z2 - 1))).toNat zerO)).R).xz = (((g.getD (z2).toNat zerO)).R).xz)) && ((decide ((((g.getD ((w64 (z2 - 1))).toNat zerO)).R).yx = (((g.getD (z2).toNat zerO)).R).yx)) && ((decide ((((g.getD ((w64 (z2 - 1))).toNat zerO)).R).yy = (((g.getD (z2).toNat zerO)).R).yy)) && ((decide ((((g.getD ((w64 (z2 - 1))).toNat zerO)).R).yz = (((g.getD (z2).toNat zerO)).R).yz)) && ((decide ((((g.getD ((w64 (z2 - 1))).toNat zerO)).R).zx = (((g.getD (z2).toNat zerO)).R).zx)) && ((decide ((((g.getD ((w64 (z2 - 1))).toNat zerO)).R).zy = (((g.getD (z2).toNat zerO)).R).zy)) && ((decide ((((g.getD ((w64 (z2 - 1))).toNat zerO)).R).zz = (((g.getD (z2).toNat zerO)).R).zz)) && true)))))))))) = false →
 (rrInv g z1 ((w64 (z2 + 1))) ∧
 ((decide (0 ≤ opMu g ((w64 (z2 + 1))))) = true ∧
 (decide (opMu g ((w64 (z2 + 1))) < opMu g z2)) = true))))))))) ∧
((decide (z2 < (g.length : Int))) = false →
(z1, ()) = (rrL g, ()))))))))
theorem r_r5Rotations (x : HL C_r5Rotations.args) : runs (env0 [] [(58, 3, { fix := [(.tmp 6, .list .op)], vars := [(.tmp 3, .list .mat), (.tmp 8, .int .i64)], inv := fun y v => rrInv y.1 v.1 v.2.1, mu := fun y v => opMu y.1 v.2.1 })] []) 400 58 C_r5Rotations x = T_r5Rotations x.1 := by kernel_rfl
theorem p_r5Rotations (g : List Op3) (h0 : (Sh.list .op).okA g) : T_r5Rotations g := by
  have hb : g.length * 96 ≤ room := h0.2
  refine ⟨⟨by omega, by omega, rfl, fun h => by omega⟩, fun l i _ _ hI hfit => ⟨fun hi => ?_, fun hi => ?_⟩⟩
  · have hi := of_decide_eq_true hi
    have i0 := hI.1
    have hl : l.length ≤ i.toNat := by rw [hI.2.2.1]; exact Nat.le_trans (rotF_len _) (by rw [List.length_take]; omega)
    have fit : ∀ x, lfit 72 (lapp l [x]) := fun x => by
      show (l ++ [x]).length * 72 ≤ 140737488355328
      have : g.length * 96 ≤ 140737488355328 := hb
      rw [List.length_append]; simp only [List.length_singleton]; omega
    have hw : 0 < i → w64 (i - 1) = i - 1 := fun h => w64_id (by omega) (by unfold room at hb; omega)
    rw [eqMc]
    refine ⟨⟨i0, hi⟩, fun h1 => ⟨fit _, rr_next hb hI hi ?_⟩, fun h1 => ⟨?_, fun h2 => ⟨fit _, rr_next hb hI hi ?_⟩, fun h2 => rr_next hb hI hi ?_⟩⟩
    · have h1 := of_decide_eq_true h1
      unfold rotS; rw [if_pos (.inl (by omega))]; rfl
    · have h1 := of_decide_eq_false h1
      rw [hw (by omega)]; exact ⟨by omega, by omega⟩
    · have h1 := of_decide_eq_false h1
      rw [hw (by omega)] at h2
      have hq := hI.2.2.2 (by omega)
      unfold rotS
      rw [if_pos (.inr fun e => by
        rw [hq.2] at e
        rw [decide_eq_true (eqM_iff.2 (cmpM_zero.1 e))] at h2
        cases h2)]
      rfl
    · have h1 := of_decide_eq_false h1
      rw [hw (by omega)] at h2
      have hq := hI.2.2.2 (by omega)
      unfold rotS; rw [if_neg ?_]
      rintro (h3 | h3)
      · exact hq.1 h3
      · rw [hq.2] at h3
        exact h3 (cmpM_zero.2 (eqM_iff.1 (by simpa using h2)))
  · unfold rrL
    rw [hI.2.2.1, take_end (of_decide_eq_false hi)]
theorem s_r5Rotations : Sound Try.prog 58 C_r5Rotations :=
  sound_of_eq (env0_ok (.nil)) (fun x => T_r5Rotations x.1) r_r5Rotations fun x ok hp => p_r5Rotations x.1 ok.1
noncomputable def C_r5DocRotations : Contract := { args := [.list .op], res := [.list .mat, .int .i64], pre := fun _ => True, F := fun x => ((rotL x.1 : List M3), (chkE x.1 : Int), ()) }
def T_r5DocRotations (g : List Op3) : Prop :=
  (True ∧
∀ z1 : Int,
(z1 = chkE g →
(((!(decide (z1 = 0))) = true →
 ([], (z1, ())) = (rotL g, (chkE g, ()))) ∧
((!(decide (z1 = 0))) = false →
(True ∧
∀ z4 : List M3,
(z4 = rrL g →
(z4, (0, ())) = (rotL g, (chkE g, ()))))))))
theorem r_r5DocRotations (x : HL C_r5DocRotations.args) : runs (env0 [(30, C_r5DocCheck.hid), (58, C_r5Rotations.hid)] [] []) 400 38 C_r5DocRotations x = T_r5DocRotations x.1 := by kernel_rfl
theorem p_r5DocRotations (g : List Op3) (h0 : (Sh.list .op).okA g) : T_r5DocRotations g := by
  refine ⟨trivial, fun e he => ⟨fun h => ?_, fun h => ⟨trivial, fun l hl => ?_⟩⟩⟩
  · have hne : chkE g ≠ 0 := by rw [← he]; simpa using h
    unfold rotL; rw [if_neg hne, he]
  · have hz : chkE g = 0 := by rw [← he]; simpa using h
    unfold rotL; rw [if_pos hz, hl, hz]; rfl
theorem s_r5DocRotations : Sound Try.prog 38 C_r5DocRotations :=
  sound_of_eq (env0_ok (.cons s_r5DocCheck.hid (.cons s_r5Rotations.hid (.nil)))) (fun x => T_r5DocRotations x.1) r_r5DocRotations fun x ok hp => p_r5DocRotations x.1 ok.1
noncomputable def C_r5DocCentring : Contract := { args := [.list .op], res := [.list .vec, .int .i64], pre := fun _ => True, F := fun x => ((cenL x.1 : List V3), (chkE x.1 : Int), ()) }
def T_r5DocCentring (g : List Op3) : Prop :=
  (True ∧
∀ z1 : Int,
(z1 = chkE g →
(((!(decide (z1 = 0))) = true →
 ([], (z1, ())) = (cenL g, (chkE g, ()))) ∧
((!(decide (z1 = 0))) = false →
(ceInv g [] 0 ∧
∀ z4 : List V3,
∀ z5 : Int,
((decide ((-9223372036854775808) ≤ z5)) = true →
((decide (z5 ≤ 9223372036854775807)) = true →
(ceInv g z4 z5 →
(lfit 24 z4 →
(((decide (z5 < (g.length : Int))) = true →
 (inB g z5 ∧
 (True ∧
 ((((decide ((((g.getD (z5).toNat zerO)).R).xx = oneO.R.xx)) && ((decide ((((g.getD (z5).toNat zerO)).R).xy = oneO.R.xy)) && ((decide ((((g.getD (z5).toNat zerO)).R).xz = oneO.R.xz)) && ((decide ((((g.getD (z5).toNat zerO)).R).yx = oneO.R.yx)) && ((decide ((((g.getD (z5).toNat zerO)).R).yy = oneO.R.yy)) && ((decide ((((g.getD (z5).toNat zerO)).R).yz = oneO.R.yz)) && ((decide ((((g.getD (z5).toNat zerO)).R).zx = oneO.R.zx)) && ((decide ((((g.getD (z5).toNat zerO)).R).zy = oneO.R.zy)) && ((decide ((((g.getD (z5).toNat zerO)).R).zz = oneO.R.zz)) && true))))))))) = true →
  (lfit 24 (lapp z4 ([((g.getD (z5).toNat zerO)).T])) ∧
  (ceInv g (lapp z4 ([((g.getD (z5).toNat zerO)).T])) ((w64 (z5 + 1))) ∧
  ((decide (0 ≤ opMu g ((w64 (z5 + 1))))) = true ∧
  (decide (opMu g ((w64 (z5 + 1))) < opMu g z5)) = true)))) ∧
 (((decide ((((g.getD (z5).toNat zerO)).R).xx = oneO.R.xx)) && ((decide ((((g.getD (z5).toNat zerO)).R).xy = oneO.R.xy)) && ((decide ((((g.getD (z5).toNat zerO)).R).xz = oneO.R.xz)) && ((decide ((((g.getD (z5).toNat zerO)).R).yx = oneO.R.yx)) && ((decide ((((g.getD (z5).toNat zerO)).R).yy = oneO.R.yy)) && ((decide ((((g.getD (z5).toNat zerO)).R).yz = oneO.R.yz)) && ((decide ((((g.getD (z5).toNat zerO)).R).zx = oneO.R.zx)) && ((decide ((((g.getD (z5).toNat zerO)).R).zy = oneO.R.zy)) && ((decide ((((g.getD (z5).toNat zerO)).R).zz = oneO.R.zz)) && true))))))))) = false →
 (ceInv g z4 ((w64 (z5 + 1))) ∧
 ((decide (0 ≤ opMu g ((w64 (z5 + 1))))) = true ∧
 (decide (opMu g ((w64 (z5 + 1))) < opMu g z5)) = true))))))) ∧
((decide (z5 < (g.length : Int))) = false →
(z4, (0, ())) = (cenL g, (chkE g, ())))))))))))))
theorem r_r5DocCentring (x : HL C_r5DocCentring.args) : runs (env0 [(30, C_r5DocCheck.hid), (37, C_r5One)] [(39, 6, { fix := [(.tmp 13, .list .op)], vars := [(.tmp 5, .list .vec), (.tmp 15, .int .i64)], inv := fun y v => ceInv y.1 v.1 v.2.1, mu := fun y v => opMu y.1 v.2.1 })] []) 400 39 C_r5DocCentring x = T_r5DocCentring x.1 := by kernel_rfl
theorem p_r5DocCentring (g : List Op3) (h0 : (Sh.list .op).okA g) : T_r5DocCentring g := by
  have hb : g.length * 96 ≤ room := h0.2
  refine ⟨trivial, fun e he => ⟨fun h => ?_, fun h => ?_⟩⟩
  · have hne : chkE g ≠ 0 := by rw [← he]; simpa using h
    unfold cenL; rw [if_neg hne, he]
  have hz : chkE g = 0 := by rw [← he]; simpa using h
  have h192 := chk_len hz
  refine ⟨⟨by omega, by omega, rfl⟩, fun l i _ _ hI hfit => ⟨fun hi => ?_, fun hi => ?_⟩⟩
  · have hi := of_decide_eq_true hi
    have i0 := hI.1
    obtain ⟨e1, e2, e3⟩ := opMu_next hb i0 hi
    have hlen := cen_len g i
    rw [eqMc, show (oneO.R : M3) = oneZ 1 from rfl]
    refine ⟨⟨i0, hi⟩, trivial, fun h1 => ⟨?_, ?_, e2, e3⟩, fun h1 => ⟨?_, e2, e3⟩⟩
    · show (l ++ [_]).length * 24 ≤ 140737488355328
      rw [List.length_append, hI.2.2]; simp; omega
    · rw [e1]
      refine ⟨by omega, by omega, ?_⟩
      rw [take_succ i0 hi zerO, cenF_snoc, ← hI.2.2, if_pos (of_decide_eq_true h1)]; rfl
    · rw [e1]
      refine ⟨by omega, by omega, ?_⟩
      rw [take_succ i0 hi zerO, cenF_snoc, ← hI.2.2, if_neg (of_decide_eq_false h1)]
  · unfold cenL
    rw [if_pos hz, hI.2.2, take_end (of_decide_eq_false hi), hz]
theorem s_r5DocCentring : Sound Try.prog 39 C_r5DocCentring :=
  sound_of_eq (env0_ok (.cons s_r5DocCheck.hid (.cons s_r5One (.nil)))) (fun x => T_r5DocCentring x.1) r_r5DocCentring fun x ok hp => p_r5DocCentring x.1 ok.1
end Go.Fx
