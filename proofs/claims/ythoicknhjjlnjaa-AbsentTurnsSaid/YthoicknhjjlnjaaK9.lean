/-
  Contracts: AbsentTurns.
-/
import Derived.Test.YthoicknhjjlnjaaK8
namespace Go.Fx
open Go Go.Proofs
set_option maxRecDepth 100000
set_option linter.unusedVariables false
set_option linter.unusedSimpArgs false
set_option linter.unusedSectionVars false
noncomputable def C_AbsentTurns : Contract := { args := [.list .op, .agg .vec], res := [.bool], pre := fun _ => True, F := fun x => ((true : Bool), ()) }
def T_AbsentTurns (g : List Op3) (h : V3) : Prop :=
  (True ∧
∀ z2 : Bool,
(z2 = true →
(((!z2) = true →
 (false, ()) = (true, ())) ∧
((!z2) = false →
(True ∧
∀ z5 : Bool,
(z5 = isB g h →
∀ z7 : Int,
(z7 = isE g h →
(((!(decide (z7 = 0))) = true →
 ((!z5), ()) = (true, ())) ∧
((!(decide (z7 = 0))) = false →
(True ∧
∀ z10 : List V3,
(z10 = hboL g h →
∀ z12 : Int,
(z12 = hkE g h →
(((!(decide (z12 = 0))) = true →
 (false, ()) = (true, ())) ∧
((!(decide (z12 = 0))) = false →
(atI z10 0 ∧
∀ z15 : Int,
((decide ((-9223372036854775808) ≤ z15)) = true →
((decide (z15 ≤ 9223372036854775807)) = true →
(atI z10 z15 →
(((decide (z15 < (z10.length : Int))) = true →
 (inB z10 z15 ∧
 (True ∧
 ∀ z20 : Bool,
 (z20 = isB g ((z10.getD (z15).toNat (V3.mk 0 0 0))) →
 ∀ z22 : Int,
 (z22 = isE g ((z10.getD (z15).toNat (V3.mk 0 0 0))) →
 (((decide (z22 = 1)) = true →
  (atI z10 ((w64 (z15 + 1))) ∧
  ((decide (0 ≤ lnV z10 ((w64 (z15 + 1))))) = true ∧
  (decide (lnV z10 ((w64 (z15 + 1))) < lnV z10 z15)) = true))) ∧
 ((decide (z22 = 1)) = false →
 (((!(decide (z22 = 0))) = true →
  (false, ()) = (true, ())) ∧
 ((!(decide (z22 = 0))) = false →
 (((!(z5 == z20)) = true →
  (false, ()) = (true, ())) ∧
 ((!(z5 == z20)) = false →
 (atI z10 ((w64 (z15 + 1))) ∧
 ((decide (0 ≤ lnV z10 ((w64 (z15 + 1))))) = true ∧
 (decide (lnV z10 ((w64 (z15 + 1))) < lnV z10 z15)) = true))))))))))))) ∧
((decide (z15 < (z10.length : Int))) = false →
(True ∧
∀ z20 : Bool,
(z20 = isB g (V3.mk 0 0 0) →
∀ z22 : Int,
(z22 = isE g (V3.mk 0 0 0) →
(((decide (z22 = 0)) = true →
 ((!z20), ()) = (true, ())) ∧
((decide (z22 = 0)) = false →
(false, ()) = (true, ()))))))))))))))))))))))))))
theorem r_AbsentTurns (x : HL C_AbsentTurns.args) : runs (env0 [(4, C_awake14.hid), (5, C_aIs.hid), (6, C_hBoth.hid)] [(3, 10, { fix := [(.tmp 33, .list .vec)], vars := [(.tmp 35, .int .i64)], inv := fun y v => atI y.1 v.1, mu := fun y v => lnV y.1 v.1 })] []) 400 3 C_AbsentTurns x = T_AbsentTurns x.1 x.2.1 := by kernel_rfl
theorem p_AbsentTurns (g : List Op3) (h : V3) (h0 : (Sh.list .op).okA g) (h1 : (Sh.agg .vec).okA h) : T_AbsentTurns g h := by
  unfold T_AbsentTurns
  refine ⟨trivial, fun z2 h2 => ⟨fun q => absurd q (by rw [h2]; decide), fun _ => ⟨trivial, fun z5 h5 z7 h7 => ⟨fun q => ?_, fun q => ?_⟩⟩⟩⟩
  · have hne : hkE g h ≠ 0 := by rw [show hkE g h = z7 from h7.symm]; simpa using q
    rw [h5, show isB g h = false from by unfold isB; rw [if_neg hne]]; rfl
  have hz : hkE g h = 0 := by rw [show hkE g h = z7 from h7.symm]; simpa using q
  have hl := hbo_len g h
  refine ⟨trivial, fun z10 h10 z12 h12 => ⟨fun q2 => absurd q2 (by rw [h12, hz]; decide), fun _ => ⟨⟨Int.le_refl _, by omega⟩, fun i _ _ hI => ⟨fun hi => ?_, fun _ => ⟨trivial, fun z20 h20 z22 h22 => ?_⟩⟩⟩⟩⟩
  · have hi := of_decide_eq_true hi
    rw [← h10] at hl
    have i0 := hI.1
    have e1 : w64 (i + 1) = i + 1 := w64_id (by omega) (by omega)
    rw [e1]
    have nx : atI z10 (i + 1) ∧ ((decide (0 ≤ lnV z10 (i + 1))) = true ∧ (decide (lnV z10 (i + 1) < lnV z10 i)) = true) := ⟨⟨by omega, by omega⟩, decide_eq_true (by unfold lnV; omega), decide_eq_true (by unfold lnV; omega)⟩
    refine ⟨⟨i0, hi⟩, trivial, fun z20 h20 z22 h22 => ⟨fun _ => nx, fun q3 => ?_⟩⟩
    have hm : z10.getD i.toNat (V3.mk 0 0 0) ∈ hboL g h := by rw [← h10]; exact getD_mem i0 hi _
    rcases both_is hz hm with e | ⟨e, e2⟩
    · exact absurd (h22.trans e) (of_decide_eq_false q3)
    · refine ⟨fun q4 => absurd q4 (by rw [h22, e]; decide), fun _ => ⟨fun q5 => absurd q5 (by rw [h5, h20, e2]; simp), fun _ => nx⟩⟩
  · obtain ⟨e1, e2⟩ := is_zero (hk_zero hz).2
    refine ⟨fun _ => by rw [h20, e2]; rfl, fun q3 => absurd (h22.trans e1) (of_decide_eq_false q3)⟩
theorem s_AbsentTurns : Sound Try.prog 3 C_AbsentTurns :=
  sound_of_eq (env0_ok (.cons s_awake14.hid (.cons s_aIs.hid (.cons s_hBoth.hid (.nil))))) (fun x => T_AbsentTurns x.1 x.2.1) r_AbsentTurns fun x ok hp => p_AbsentTurns x.1 x.2.1 ok.1 ok.2.1
end Go.Fx
