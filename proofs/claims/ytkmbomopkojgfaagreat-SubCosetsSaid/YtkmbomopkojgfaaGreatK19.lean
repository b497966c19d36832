/-
  Contracts: SubCosets.
-/
import Derived.Test.YtkmbomopkojgfaaGreatK16
namespace Go.Fx
open Go Go.Proofs
set_option maxRecDepth 100000
set_option linter.unusedVariables false
set_option linter.unusedSimpArgs false
set_option linter.unusedSectionVars false
noncomputable def C_SubCosets : Contract := { args := [.list .op, .list .op], res := [.bool], pre := fun _ => True, F := fun x => ((true : Bool), ()) }
def T_SubCosets (g : List Op3) (h : List Op3) : Prop :=
  (True ∧
∀ z2 : Bool,
(z2 = true →
(((!z2) = true →
 (false, ()) = (true, ())) ∧
((!z2) = false →
(True ∧
∀ z5 : Bool,
(z5 = siB g h →
∀ z7 : Int,
(z7 = two g h →
(True ∧
∀ z9 : Bool,
(z9 = siB g h →
∀ z11 : Int,
(z11 = two g h →
(((!(z5 == z9)) = true →
 (false, ()) = (true, ())) ∧
((!(z5 == z9)) = false →
(((!(decide (z7 = z11))) = true →
 (false, ()) = (true, ())) ∧
((!(decide (z7 = z11))) = false →
(True ∧
∀ z15 : List (List Int),
(z15 = csC g h →
∀ z17 : Int,
(z17 = boE g h →
(True ∧
∀ z19 : List (List Int),
(z19 = csC g h →
∀ z21 : Int,
(z21 = boE g h →
(True ∧
∀ z23 : Bool,
(z23 = smC z15 z19 →
(((!z23) = true →
 (false, ()) = (true, ())) ∧
((!z23) = false →
(((!(decide (z17 = z21))) = true →
 (false, ()) = (true, ())) ∧
((!(decide (z17 = z21))) = false →
(True ∧
∀ z27 : Bool,
(z27 = noB g h →
∀ z29 : Int,
(z29 = boE g h →
(True ∧
∀ z31 : Bool,
(z31 = noB g h →
∀ z33 : Int,
(z33 = boE g h →
(((z27 == z31) = true →
 ((decide (z29 = z33)), ()) = (true, ())) ∧
((z27 == z31) = false →
(false, ()) = (true, ())))))))))))))))))))))))))))))))))))
theorem r_SubCosets (x : HL C_SubCosets.args) : runs (env0 [(7, C_awake6.hid), (8, C_sWithin.hid), (9, C_r6DocWithin.hid), (10, C_sCosets.hid), (11, C_r6DocCosets.hid), (12, C_cuts6.hid), (13, C_sNormal.hid), (14, C_r6DocNormal.hid)] [] []) 1500 3 C_SubCosets x = T_SubCosets x.1 x.2.1 := by kernel_rfl
theorem p_SubCosets (g : List Op3) (h : List Op3) (h0 : (Sh.list .op).okA g) (h1 : (Sh.list .op).okA h) : T_SubCosets g h := by
  unfold T_SubCosets
  refine ⟨trivial, fun z hz => ⟨fun h => absurd (hz ▸ h) (by decide), fun _ => ⟨trivial, fun a ha e he => ⟨trivial, fun b hb f hf => ⟨fun q => absurd q (by rw [ha, hb]; simp), fun _ => ⟨fun q => absurd q (by rw [he, hf]; simp), fun _ => ⟨trivial, fun c hc e2 he2 => ⟨trivial, fun d hd f2 hf2 => ⟨trivial, fun y hy => ⟨fun q => absurd q (by rw [hy, hc, hd]; simp [smC]), fun _ => ⟨fun q => absurd q (by rw [he2, hf2]; simp), fun _ => ⟨trivial, fun n hn e3 he3 => ⟨trivial, fun m hm f3 hf3 => ⟨fun _ => by rw [he3, hf3]; simp, fun q => absurd q (by rw [hn, hm]; simp)⟩⟩⟩⟩⟩⟩⟩⟩⟩⟩⟩⟩⟩⟩
theorem s_SubCosets : Sound Tryz.prog 3 C_SubCosets :=
  sound_of_eq (env0_ok (.cons s_awake6.hid (.cons s_sWithin.hid (.cons s_r6DocWithin.hid (.cons s_sCosets.hid (.cons s_r6DocCosets.hid (.cons s_cuts6.hid (.cons s_sNormal.hid (.cons s_r6DocNormal.hid (.nil)))))))))) (fun x => T_SubCosets x.1 x.2.1) r_SubCosets fun x ok hp => p_SubCosets x.1 x.2.1 ok.1 ok.2.1
end Go.Fx
