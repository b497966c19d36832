/-
  Contracts: uFits, r10DocFits.
-/
import Derived.Test.YtolbgdfbdlddaaaK8
namespace Go.Fx
open Go Go.Proofs
set_option maxRecDepth 100000
set_option linter.unusedVariables false
set_option linter.unusedSimpArgs false
set_option linter.unusedSectionVars false
noncomputable def C_uFits : Contract := { args := [.list .op, .agg .vec], res := [.int .i64], pre := fun _ => True, F := fun x => ((fuE x.1 x.2.1 : Int), ()) }
def T_uFits (g : List Op3) (n : V3) : Prop :=
  (True ∧
(True ∧
(True ∧
(((!(decide (lsE (chkE g) (sidE n) = 0))) = true →
 (lsE (chkE g) (sidE n), ()) = (fuE g n, ())) ∧
((!(decide (lsE (chkE g) (sidE n) = 0))) = false →
(flI g n 0 ∧
∀ z3 : Int,
((decide ((-9223372036854775808) ≤ z3)) = true →
((decide (z3 ≤ 9223372036854775807)) = true →
(flI g n z3 →
(((decide (z3 < (g.length : Int))) = true →
 (inB g z3 ∧
 (sidP n ∧
 ∀ z8 : Bool,
 (z8 = fitB (((g.getD (z3).toNat zerO))) n →
 (((!z8) = true →
  (6, ()) = (fuE g n, ())) ∧
 ((!z8) = false →
 (flI g n ((w64 (z3 + 1))) ∧
 ((decide (0 ≤ opMu g ((w64 (z3 + 1))))) = true ∧
 (decide (opMu g ((w64 (z3 + 1))) < opMu g z3)) = true)))))))) ∧
((decide (z3 < (g.length : Int))) = false →
(0, ()) = (fuE g n, ()))))))))))))
theorem r_uFits (x : HL C_uFits.args) : runs (env0 [(44, C_gCheck.hid), (45, C_usides.hid), (43, C_uleast.hid), (46, C_ufits.hid)] [(14, 5, { fix := [(.tmp 16, .list .op), (.cell 3, .agg .vec)], vars := [(.tmp 18, .int .i64)], inv := fun y v => flI y.1 y.2.1 v.1, mu := fun y v => opMu y.1 v.1 })] []) 400 14 C_uFits x = T_uFits x.1 x.2.1 := by kernel_rfl
theorem p_uFits (g : List Op3) (n : V3) (h0 : (Sh.list .op).okA g) (h1 : (Sh.agg .vec).okA n) : T_uFits g n := by
  have hb : g.length * 96 ≤ room := h0.2
  unfold T_uFits
  refine ⟨trivial, trivial, trivial, fun q => ?_, fun q => ?_⟩
  · have hz : lsE (chkE g) (sidE n) ≠ 0 := by simpa using q
    unfold fuE; rw [if_neg hz]
  have hz : lsE (chkE g) (sidE n) = 0 := by simpa using q
  refine ⟨⟨Int.le_refl _, by omega, fun k hk => by simp at hk⟩, fun i _ _ hI => ⟨fun hi => ?_, fun hi => ?_⟩⟩
  · have hi := of_decide_eq_true hi
    have i0 := hI.1
    obtain ⟨e1, e2, e3⟩ := opMu_next hb i0 hi
    rw [e1] at e2 e3 ⊢
    refine ⟨⟨i0, hi⟩, (lsE_zero hz).2, fun b hB => ⟨fun c => ?_, fun c => ⟨fl_next hI hi (by rw [← hB]; simpa using c), e2, e3⟩⟩⟩
    unfold fuE
    rw [if_pos hz, if_neg (fl_bad i0 hi (by rw [← hB]; simpa using c))]
  · unfold fuE
    rw [if_pos hz, if_pos (fl_end hI (of_decide_eq_false hi))]
theorem s_uFits : Sound Try.prog 14 C_uFits :=
  sound_of_eq (env0_ok (.cons s_gCheck.hid (.cons s_usides.hid (.cons s_uleast.hid (.cons s_ufits.hid (.nil)))))) (fun x => T_uFits x.1 x.2.1) r_uFits fun x ok hp => p_uFits x.1 x.2.1 ok.1 ok.2.1
noncomputable def C_r10DocFits : Contract := { args := [.list .op, .agg .vec], res := [.int .i64], pre := fun _ => True, F := fun x => ((fuE x.1 x.2.1 : Int), ()) }
def T_r10DocFits (g : List Op3) (n : V3) : Prop :=
  (True ∧
∀ z2 : Int,
(z2 = sidE n →
(True ∧
∀ z4 : Int,
(z4 = chkE g →
(((!(decide (z2 = 0))) = true →
 (True ∧
 ∀ z7 : Int,
 (z7 = lstE ([z2, z4]) →
 (z7, ()) = (fuE g n, ())))) ∧
((!(decide (z2 = 0))) = false →
(((!(decide (z4 = 0))) = true →
 (True ∧
 ∀ z8 : Int,
 (z8 = lstE ([z2, z4]) →
 (z8, ()) = (fuE g n, ())))) ∧
((!(decide (z4 = 0))) = false →
(flI g n 0 ∧
∀ z8 : Int,
((decide ((-9223372036854775808) ≤ z8)) = true →
((decide (z8 ≤ 9223372036854775807)) = true →
(flI g n z8 →
(((decide (z8 < (g.length : Int))) = true →
 (inB g z8 ∧
 (sidP n ∧
 ∀ z13 : Bool,
 (z13 = fitB (((g.getD (z8).toNat zerO))) n →
 (((!z13) = true →
  (6, ()) = (fuE g n, ())) ∧
 ((!z13) = false →
 (flI g n ((w64 (z8 + 1))) ∧
 ((decide (0 ≤ opMu g ((w64 (z8 + 1))))) = true ∧
 (decide (opMu g ((w64 (z8 + 1))) < opMu g z8)) = true)))))))) ∧
((decide (z8 < (g.length : Int))) = false →
(0, ()) = (fuE g n, ())))))))))))))))
theorem r_r10DocFits (x : HL C_r10DocFits.args) : runs (env0 [(47, C_r10Sides.hid), (48, C_r5DocCheck.hid), (49, C_r10Least.hid), (50, C_r10Fits.hid)] [(15, 5, { fix := [(.tmp 23, .list .op), (.cell 3, .agg .vec)], vars := [(.tmp 25, .int .i64)], inv := fun y v => flI y.1 y.2.1 v.1, mu := fun y v => opMu y.1 v.1 })] []) 400 15 C_r10DocFits x = T_r10DocFits x.1 x.2.1 := by kernel_rfl
theorem p_r10DocFits (g : List Op3) (n : V3) (h0 : (Sh.list .op).okA g) (h1 : (Sh.agg .vec).okA n) : T_r10DocFits g n := by
  have hb : g.length * 96 ≤ room := h0.2
  unfold T_r10DocFits
  have hcm : lsE (sidE n) (chkE g) = lsE (chkE g) (sidE n) := lsE_comm (sid_nn n) (chk_nn g)
  have bad : ∀ z : Int, z = lstE [sidE n, chkE g] → (sidE n ≠ 0 ∨ chkE g ≠ 0) → (z, ()) = (fuE g n, ()) := fun z h c => by
    rw [h, lstE_two, hcm]
    unfold fuE
    rw [if_neg (fun k => by obtain ⟨k1, k2⟩ := lsE_zero k; exact c.elim (fun c => c k2) (fun c => c k1))]
  refine ⟨trivial, fun s hs => ⟨trivial, fun e he => ?_⟩⟩
  subst hs he
  refine ⟨fun q => ⟨trivial, fun z h => bad z h (.inl (by simpa using q))⟩, fun q => ⟨fun q2 => ⟨trivial, fun z h => bad z h (.inr (by simpa using q2))⟩, fun q2 => ?_⟩⟩
  have hz : lsE (chkE g) (sidE n) = 0 := by
    rw [show chkE g = 0 by simpa using q2, show sidE n = 0 by simpa using q]; rfl
  refine ⟨⟨Int.le_refl _, by omega, fun k hk => by simp at hk⟩, fun i _ _ hI => ⟨fun hi => ?_, fun hi => ?_⟩⟩
  · have hi := of_decide_eq_true hi
    have i0 := hI.1
    obtain ⟨e1, e2, e3⟩ := opMu_next hb i0 hi
    rw [e1] at e2 e3 ⊢
    refine ⟨⟨i0, hi⟩, (lsE_zero hz).2, fun b hB => ⟨fun c => ?_, fun c => ⟨fl_next hI hi (by rw [← hB]; simpa using c), e2, e3⟩⟩⟩
    unfold fuE
    rw [if_pos hz, if_neg (fl_bad i0 hi (by rw [← hB]; simpa using c))]
  · unfold fuE
    rw [if_pos hz, if_pos (fl_end hI (of_decide_eq_false hi))]
theorem s_r10DocFits : Sound Try.prog 15 C_r10DocFits :=
  sound_of_eq (env0_ok (.cons s_r10Sides.hid (.cons s_r5DocCheck.hid (.cons s_r10Least.hid (.cons s_r10Fits.hid (.nil)))))) (fun x => T_r10DocFits x.1 x.2.1) r_r10DocFits fun x ok hp => p_r10DocFits x.1 x.2.1 ok.1 ok.2.1
end Go.Fx
