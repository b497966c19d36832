/-
  Contracts: SubClasses.
-/
import Derived.Test.YtkmbomopkojgfaaGreatK17
namespace Go.Fx
open Go Go.Proofs
set_option maxRecDepth 100000
set_option linter.unusedVariables false
set_option linter.unusedSimpArgs false
set_option linter.unusedSectionVars false
noncomputable def C_SubClasses : Contract := { args := [.list .op], res := [.bool], pre := fun _ => True, F := fun x => ((true : Bool), ()) }
def T_SubClasses (g : List Op3) : Prop :=
  (True ∧
∀ z1 : Bool,
(z1 = true →
(((!z1) = true →
 (false, ()) = (true, ())) ∧
((!z1) = false →
(True ∧
∀ z4 : List (List Int),
(z4 = clC g →
∀ z6 : Int,
(z6 = chkE g →
(True ∧
∀ z8 : List (List Int),
(z8 = clC g →
∀ z10 : Int,
(z10 = chkE g →
(True ∧
∀ z12 : Bool,
(z12 = smC z4 z8 →
(((!z12) = true →
 (false, ()) = (true, ())) ∧
((!z12) = false →
(((!(decide (z6 = z10))) = true →
 (false, ()) = (true, ())) ∧
((!(decide (z6 = z10))) = false →
(True ∧
∀ z16 : List Op3,
(z16 = heL g →
∀ z18 : Int,
(z18 = chkE g →
(True ∧
∀ z20 : List Op3,
(z20 = heL g →
∀ z22 : Int,
(z22 = chkE g →
(True ∧
∀ z24 : Bool,
(z24 = smO z16 z20 →
((z24 = true →
 ((decide (z18 = z22)), ()) = (true, ())) ∧
(z24 = false →
(false, ()) = (true, ())))))))))))))))))))))))))))
theorem r_SubClasses (x : HL C_SubClasses.args) : runs (env0 [(7, C_awake6.hid), (20, C_sClasses.hid), (21, C_r6DocClasses.hid), (12, C_cuts6.hid), (22, C_sHeart.hid), (23, C_r6DocHeart.hid), (17, C_r5Same.hid)] [] []) 1500 5 C_SubClasses x = T_SubClasses x.1 := by kernel_rfl
theorem p_SubClasses (g : List Op3) (h0 : (Sh.list .op).okA g) : T_SubClasses g := by
  unfold T_SubClasses
  exact ⟨trivial, fun z hz => ⟨fun h => absurd (hz ▸ h) (by decide), fun _ => ⟨trivial, fun a ha e he => ⟨trivial, fun b hb f hf => ⟨trivial, fun y hy => ⟨fun q => absurd q (by rw [hy, ha, hb]; simp [smC]), fun _ => ⟨fun q => absurd q (by rw [he, hf]; simp), fun _ => ⟨trivial, fun c hc e2 he2 => ⟨trivial, fun d hd f2 hf2 => ⟨trivial, fun x hx => ⟨fun _ => by rw [he2, hf2]; simp, fun q => absurd q (by rw [hx, hc, hd]; simp [smO])⟩⟩⟩⟩⟩⟩⟩⟩⟩⟩⟩
theorem s_SubClasses : Sound Tryz.prog 5 C_SubClasses :=
  sound_of_eq (env0_ok (.cons s_awake6.hid (.cons s_sClasses.hid (.cons s_r6DocClasses.hid (.cons s_cuts6.hid (.cons s_sHeart.hid (.cons s_r6DocHeart.hid (.cons s_r5Same.hid (.nil))))))))) (fun x => T_SubClasses x.1) r_SubClasses fun x ok hp => p_SubClasses x.1 ok.1
end Go.Fx
