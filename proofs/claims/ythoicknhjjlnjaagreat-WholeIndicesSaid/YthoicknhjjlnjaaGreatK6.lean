/-
  Contracts: gRotations.
-/
import Derived.Test.YthoicknhjjlnjaaGreatK5
namespace Go.Fx
open Go Go.Proofs
set_option maxRecDepth 100000
set_option linter.unusedVariables false
set_option linter.unusedSimpArgs false
set_option linter.unusedSectionVars false
noncomputable def C_gRotations : Contract := { args := [.list .op], res := [.list .mat, .int .i64], pre := fun _ => True, F := fun x => ((rotL x.1 : List M3), (chkE x.1 : Int), ()) }
def T_gRotations (g : List Op3) : Prop :=
  (True ∧
∀ z1 : Int,
(z1 = chkE g →
(((!(decide (z1 = 0))) = true →
 ([], (z1, ())) = (rotL g, (chkE g, ()))) ∧
((!(decide (z1 = 0))) = false →
(roInv g [] 0 ∧
∀ z4 : List M3,
∀ z5 : Int,
((decide ((-9223372036854775808) ≤ z5)) = true →
((decide (z5 ≤ 9223372036854775807)) = true →
(roInv g z4 z5 →
(lfit 72 z4 →
(((decide (z5 < (g.length : Int))) = true →
 (inB g z5 ∧
 (((decide ((z4.length : Int) = 0)) = true →
  (lfit 72 (lapp z4 ([((g.getD (z5).toNat zerO)).R])) ∧
  (roInv g (lapp z4 ([((g.getD (z5).toNat zerO)).R])) ((w64 (z5 + 1))) ∧
  ((decide (0 ≤ opMu g ((w64 (z5 + 1))))) = true ∧
  (decide (opMu g ((w64 (z5 + 1))) < opMu g z5)) = true)))) ∧
 ((decide ((z4.length : Int) = 0)) = false →
 (inB z4 (((z4.length : Int) - 1)) ∧
 (True ∧
 (((!(decide (cmpM ((z4.getD (((z4.length : Int) - 1)).toNat zerO.R)) (((g.getD (z5).toNat zerO)).R) = 0))) = true →
  (lfit 72 (lapp z4 ([((g.getD (z5).toNat zerO)).R])) ∧
  (roInv g (lapp z4 ([((g.getD (z5).toNat zerO)).R])) ((w64 (z5 + 1))) ∧
  ((decide (0 ≤ opMu g ((w64 (z5 + 1))))) = true ∧
  (decide (opMu g ((w64 (z5 + 1))) < opMu g z5)) = true)))) ∧
 ((!(decide (cmpM ((z4.getD (((z4.length : Int) - 1)).toNat zerO.R)) (((g.getD (z5).toNat zerO)).R) = 0))) = false →
 (roInv g z4 ((w64 (z5 + 1))) ∧
 ((decide (0 ≤ opMu g ((w64 (z5 + 1))))) = true ∧
 (decide (opMu g ((w64 (z5 + 1))) < opMu g z5)) = true)))))))))) ∧
((decide (z5 < (g.length : Int))) = false →
(z4, (0, ())) = (rotL g, (chkE g, ())))))))))))))
theorem r_gRotations (x : HL C_gRotations.args) : runs (env0 [(41, C_gCheck.hid), (52, C_Compare.hid)] [(31, 6, { fix := [(.tmp 13, .list .op)], vars := [(.tmp 5, .list .mat), (.tmp 15, .int .i64)], inv := fun y v => roInv y.1 v.1 v.2.1, mu := fun y v => opMu y.1 v.2.1 })] []) 400 31 C_gRotations x = T_gRotations x.1 := by kernel_rfl
theorem p_gRotations (g : List Op3) (h0 : (Sh.list .op).okA g) : T_gRotations g := by
  have hb : g.length * 96 ≤ room := h0.2
  refine ⟨trivial, fun e he => ⟨fun h => ?_, fun h => ?_⟩⟩
  · have hne : chkE g ≠ 0 := by rw [← he]; simpa using h
    unfold rotL; rw [if_neg hne, he]
  have hz : chkE g = 0 := by rw [← he]; simpa using h
  have h192 := chk_len hz
  refine ⟨⟨by omega, by omega, rfl⟩, fun l i _ _ hI hfit => ⟨fun hi => ?_, fun hi => ?_⟩⟩
  · have hi := of_decide_eq_true hi
    have i0 := hI.1
    have hlen := rot_len g i
    obtain ⟨e1, e2, e3⟩ := opMu_next hb i0 hi
    have nx : ∀ l', l' = rotS l (g.getD i.toNat zerO) → roInv g l' (w64 (i + 1)) ∧ (decide (0 ≤ opMu g (w64 (i + 1))) = true ∧ decide (opMu g (w64 (i + 1)) < opMu g i) = true) := fun l' h' => by
      refine ⟨?_, e2, e3⟩
      rw [e1]
      refine ⟨by omega, by omega, ?_⟩
      rw [take_succ i0 hi zerO, rotF_snoc, ← hI.2.2]; exact h'
    have fit : ∀ x, lfit 72 (lapp l [x]) := fun x => by
      show (l ++ [x]).length * 72 ≤ 140737488355328
      rw [List.length_append, hI.2.2]; simp; omega
    refine ⟨⟨i0, hi⟩, fun h1 => ⟨fit _, nx _ ?_⟩, fun h1 => ⟨?_, trivial, fun h2 => ⟨fit _, nx _ ?_⟩, fun h2 => nx _ ?_⟩⟩
    · have h1 := of_decide_eq_true h1
      unfold rotS; rw [if_pos (.inl (by omega))]; rfl
    · have h1 := of_decide_eq_false h1
      exact ⟨by omega, by omega⟩
    · have h1 := of_decide_eq_false h1
      rw [show ((l.length : Int) - 1).toNat = l.length - 1 by omega] at h2
      unfold rotS
      rw [if_pos (.inr fun e => by rw [e] at h2; cases h2)]
      rfl
    · have h1 := of_decide_eq_false h1
      unfold rotS; rw [if_neg ?_]
      rw [show ((l.length : Int) - 1).toNat = l.length - 1 by omega] at h2
      rintro (h3 | h3)
      · omega
      · exact h3 (by simpa using h2)
  · unfold rotL
    rw [if_pos hz, hI.2.2, take_end (of_decide_eq_false hi), hz]
theorem s_gRotations : Sound Tryz.prog 31 C_gRotations :=
  sound_of_eq (env0_ok (.cons s_gCheck.hid (.cons s_Compare.hid (.nil)))) (fun x => T_gRotations x.1) r_gRotations fun x ok hp => p_gRotations x.1 ok.1
end Go.Fx
