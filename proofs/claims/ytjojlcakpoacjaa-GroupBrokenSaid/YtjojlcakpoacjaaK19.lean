/-
  Contracts: GroupCloses, GroupChecks.
-/
import Derived.Test.YtjojlcakpoacjaaK18
namespace Go.Fx
open Go Go.Proofs
set_option maxRecDepth 100000
set_option linter.unusedVariables false
set_option linter.unusedSimpArgs false
set_option linter.unusedSectionVars false
noncomputable def C_GroupCloses : Contract := { args := [.list .op], res := [.bool], pre := fun _ => True, F := fun x => ((true : Bool), ()) }
def T_GroupCloses (l : List Op3) : Prop :=
  (True ∧
∀ z1 : Bool,
(z1 = true →
(((!z1) = true →
 (false, ()) = (true, ())) ∧
((!z1) = false →
(True ∧
∀ z4 : List Op3,
(z4 = l →
(True ∧
∀ z6 : List Op3,
(z6 = cloL z4 →
∀ z8 : Int,
(z8 = cloE z4 →
(True ∧
∀ z10 : List Op3,
(z10 = dclL l →
∀ z12 : Int,
(z12 = dclE l →
(True ∧
∀ z14 : Bool,
(z14 = smO z6 z10 →
((z14 = true →
 ((decide (z8 = z12)), ()) = (true, ())) ∧
(z14 = false →
(false, ()) = (true, ())))))))))))))))))
theorem r_GroupCloses (x : HL C_GroupCloses.args) : runs (env0 [(26, C_awake5.hid), (27, C_r5Twin.hid), (14, C_gClose.hid), (28, C_r5DocClose.hid), (29, C_r5Same.hid)] [] []) 400 5 C_GroupCloses x = T_GroupCloses x.1 := by kernel_rfl
theorem p_GroupCloses (l : List Op3) (h0 : (Sh.list .op).okA l) : T_GroupCloses l := by
  refine ⟨trivial, fun z hz => ⟨fun h => absurd (hz ▸ h) (by decide), fun _ => ⟨trivial, fun a ha => ⟨trivial, fun b hb c hc => ⟨trivial, fun d hd e he => ⟨trivial, fun f hf => ⟨fun _ => ?_, fun h => ?_⟩⟩⟩⟩⟩⟩⟩
  · rw [decide_eq_true (show c = e by rw [hc, he, ha]; exact (clo_doc l).2)]
  · rw [hf, show smO b d = true from decide_eq_true (by rw [hb, hd, ha]; exact (clo_doc l).1)] at h
    cases h
theorem s_GroupCloses : Sound Try.prog 5 C_GroupCloses :=
  sound_of_eq (env0_ok (.cons s_awake5.hid (.cons s_r5Twin.hid (.cons s_gClose.hid (.cons s_r5DocClose.hid (.cons s_r5Same.hid (.nil))))))) (fun x => T_GroupCloses x.1) r_GroupCloses fun x ok hp => p_GroupCloses x.1 ok.1
noncomputable def C_GroupChecks : Contract := { args := [.list .op, .agg .op], res := [.bool], pre := fun _ => True, F := fun x => ((true : Bool), ()) }
def T_GroupChecks (g : List Op3) (o : Op3) : Prop :=
  (True ∧
∀ z2 : Bool,
(z2 = true →
(((!z2) = true →
 (false, ()) = (true, ())) ∧
((!z2) = false →
(True ∧
∀ z5 : List Op3,
(z5 = g →
(True ∧
∀ z7 : Int,
(z7 = chkE z5 →
(True ∧
∀ z9 : Int,
(z9 = chkE g →
(((!(decide (z7 = z9))) = true →
 (false, ()) = (true, ())) ∧
((!(decide (z7 = z9))) = false →
(True ∧
(True ∧
(True ∧
∀ z12 : Int,
(z12 = dfiI g o →
∀ z14 : Int,
(z14 = dfiE g o →
(((decide (fndI g o = z12)) = true →
 ((decide (fndE g o = z14)), ()) = (true, ())) ∧
((decide (fndI g o = z12)) = false →
(false, ()) = (true, ()))))))))))))))))))))
theorem r_GroupChecks (x : HL C_GroupChecks.args) : runs (env0 [(26, C_awake5.hid), (27, C_r5Twin.hid), (16, C_gCheck.hid), (30, C_r5DocCheck.hid), (18, C_gFind.hid), (31, C_r5DocFind.hid)] [] []) 400 6 C_GroupChecks x = T_GroupChecks x.1 x.2.1 := by kernel_rfl
theorem p_GroupChecks (g : List Op3) (o : Op3) (h0 : (Sh.list .op).okA g) (h1 : (Sh.agg .op).okA o) : T_GroupChecks g o := by
  have hx : gE [o] = errL [o] := if_neg (by simp)
  have h1 : fndI g o = dfiI g o := by unfold fndI dfiI; rw [hx]
  have h2 : fndE g o = dfiE g o := by unfold fndE dfiE; rw [hx]
  refine ⟨trivial, fun z hz => ⟨fun h => absurd (hz ▸ h) (by decide), fun _ => ⟨trivial, fun a ha => ⟨trivial, fun b hb => ⟨trivial, fun c hc => ⟨fun h => ?_, fun _ => ⟨trivial, trivial, trivial, fun d hd e he => ⟨fun _ => ?_, fun h => ?_⟩⟩⟩⟩⟩⟩⟩⟩
  · rw [hb, hc, ha] at h; simp at h
  · rw [decide_eq_true (h2.trans he.symm)]
  · exact absurd (h1.trans hd.symm) (of_decide_eq_false h)
theorem s_GroupChecks : Sound Try.prog 6 C_GroupChecks :=
  sound_of_eq (env0_ok (.cons s_awake5.hid (.cons s_r5Twin.hid (.cons s_gCheck.hid (.cons s_r5DocCheck.hid (.cons s_gFind.hid (.cons s_r5DocFind.hid (.nil)))))))) (fun x => T_GroupChecks x.1 x.2.1) r_GroupChecks fun x ok hp => p_GroupChecks x.1 x.2.1 ok.1 ok.2.1
end Go.Fx
