/-
  Contracts: SubMeets.
-/
import Derived.Test.YtkmbomopkojgfaaGreatK18
namespace Go.Fx
open Go Go.Proofs
set_option maxRecDepth 100000
set_option linter.unusedVariables false
set_option linter.unusedSimpArgs false
set_option linter.unusedSectionVars false
noncomputable def C_SubMeets : Contract := { args := [.list .op, .list .op], res := [.bool], pre := fun _ => True, F := fun x => ((true : Bool), ()) }
def T_SubMeets (g : List Op3) (h : List Op3) : Prop :=
  (True ∧
∀ z2 : Bool,
(z2 = true →
(((!z2) = true →
 (false, ()) = (true, ())) ∧
((!z2) = false →
(True ∧
∀ z5 : List Op3,
(z5 = meL g h →
∀ z7 : Int,
(z7 = two g h →
(True ∧
∀ z9 : List Op3,
(z9 = meL g h →
∀ z11 : Int,
(z11 = two g h →
(True ∧
∀ z13 : Bool,
(z13 = smO z5 z9 →
(((!z13) = true →
 (false, ()) = (true, ())) ∧
((!z13) = false →
(((!(decide (z7 = z11))) = true →
 (false, ()) = (true, ())) ∧
((!(decide (z7 = z11))) = false →
(True ∧
∀ z17 : List Op3,
(z17 = joL g h →
∀ z19 : Int,
(z19 = joE g h →
(True ∧
∀ z21 : List Op3,
(z21 = joL g h →
∀ z23 : Int,
(z23 = joE g h →
(True ∧
∀ z25 : Bool,
(z25 = smO z17 z21 →
((z25 = true →
 ((decide (z19 = z23)), ()) = (true, ())) ∧
(z25 = false →
(false, ()) = (true, ())))))))))))))))))))))))))))
theorem r_SubMeets (x : HL C_SubMeets.args) : runs (env0 [(7, C_awake6.hid), (15, C_sMeet.hid), (16, C_r6DocMeet.hid), (17, C_r5Same.hid), (18, C_sJoin.hid), (19, C_r6DocJoin.hid)] [] []) 1500 4 C_SubMeets x = T_SubMeets x.1 x.2.1 := by kernel_rfl
theorem p_SubMeets (g : List Op3) (h : List Op3) (h0 : (Sh.list .op).okA g) (h1 : (Sh.list .op).okA h) : T_SubMeets g h := by
  unfold T_SubMeets
  exact ⟨trivial, fun z hz => ⟨fun h => absurd (hz ▸ h) (by decide), fun _ => ⟨trivial, fun a ha e he => ⟨trivial, fun b hb f hf => ⟨trivial, fun y hy => ⟨fun q => absurd q (by rw [hy, ha, hb]; simp [smO]), fun _ => ⟨fun q => absurd q (by rw [he, hf]; simp), fun _ => ⟨trivial, fun c hc e2 he2 => ⟨trivial, fun d hd f2 hf2 => ⟨trivial, fun x hx => ⟨fun _ => by rw [he2, hf2]; simp, fun q => absurd q (by rw [hx, hc, hd]; simp [smO])⟩⟩⟩⟩⟩⟩⟩⟩⟩⟩⟩
theorem s_SubMeets : Sound Tryz.prog 4 C_SubMeets :=
  sound_of_eq (env0_ok (.cons s_awake6.hid (.cons s_sMeet.hid (.cons s_r6DocMeet.hid (.cons s_r5Same.hid (.cons s_sJoin.hid (.cons s_r6DocJoin.hid (.nil)))))))) (fun x => T_SubMeets x.1 x.2.1) r_SubMeets fun x ok hp => p_SubMeets x.1 x.2.1 ok.1 ok.2.1
end Go.Fx
