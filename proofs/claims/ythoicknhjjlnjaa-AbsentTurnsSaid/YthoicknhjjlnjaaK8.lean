/-
  Contracts: screw14, awake14.
-/
import Derived.Test.YthoicknhjjlnjaaK7
namespace Go.Fx
open Go Go.Proofs
set_option maxRecDepth 100000
set_option linter.unusedVariables false
set_option linter.unusedSimpArgs false
set_option linter.unusedSectionVars false
noncomputable def C_screw14 : Contract := { args := [], res := [.list .op], pre := fun _ => True, F := fun x => ((scrw : List Op3), ()) }
def T_screw14  : Prop :=
  (True ∧
([(Op3.mk ((M3.mk (-1) 0 0 0 1 0 0 0 (-1))) (V3.mk 0 12 0)), oneO], ()) = (scrw, ()))
theorem r_screw14 (x : HL C_screw14.args) : runs (env0 [(14, C_opOne)] [] []) 400 7 C_screw14 x = T_screw14  := by kernel_rfl
theorem p_screw14   : T_screw14  := by
  exact ⟨trivial, rfl⟩
theorem s_screw14 : Sound Try.prog 7 C_screw14 :=
  sound_of_eq (env0_ok (.cons s_opOne (.nil))) (fun x => T_screw14 ) r_screw14 fun x ok hp => p_screw14  
noncomputable def C_awake14 : Contract := { args := [], res := [.bool], pre := fun _ => True, F := fun x => ((true : Bool), ()) }
def T_awake14  : Prop :=
  (True ∧
∀ z0 : List Op3,
(z0 = scrw →
(True ∧
∀ z2 : Bool,
(z2 = isB z0 (V3.mk 0 1 0) →
∀ z4 : Int,
(z4 = isE z0 (V3.mk 0 1 0) →
(True ∧
∀ z6 : List Op3,
(z6 = scrw →
(True ∧
∀ z8 : Bool,
(z8 = isB z6 (V3.mk 0 2 0) →
∀ z10 : Int,
(z10 = isE z6 (V3.mk 0 2 0) →
(True ∧
∀ z12 : List Op3,
(z12 = scrw →
(True ∧
∀ z14 : Int,
(z14 = ceI z12 (V3.mk 1 0 1) →
∀ z16 : Bool,
(z16 = ceB z12 (V3.mk 1 0 1) →
∀ z18 : Int,
(z18 = isE z12 (V3.mk 1 0 1) →
(((decide (z4 = 0)) = true →
 (((decide (z10 = 0)) = true →
  (((decide (z18 = 0)) = true →
   ((z2 = true →
    (((!z8) = true →
     ((z16 = true →
      ((decide (z14 = 0)), ()) = (true, ())) ∧
     (z16 = false →
     (false, ()) = (true, ())))) ∧
    ((!z8) = false →
    (false, ()) = (true, ())))) ∧
   (z2 = false →
   (false, ()) = (true, ())))) ∧
  ((decide (z18 = 0)) = false →
  (false, ()) = (true, ())))) ∧
 ((decide (z10 = 0)) = false →
 (false, ()) = (true, ())))) ∧
((decide (z4 = 0)) = false →
(false, ()) = (true, ())))))))))))))))))))
theorem r_awake14 (x : HL C_awake14.args) : runs (env0 [(7, C_screw14.hid), (5, C_aIs.hid), (8, C_aCentric.hid)] [] []) 400 4 C_awake14 x = T_awake14  := by kernel_rfl
theorem p_awake14   : T_awake14  := by
  unfold T_awake14
  repeat' (first
    | exact trivial
    | rfl
    | (refine And.intro ?_ ?_)
    | (intro z; intro hz; subst hz)
    | (intro h; first | exact absurd h (by decide +kernel) | skip)
    | (unfold leP; decide +kernel)
    | (unfold lfit; decide +kernel)
    | decide +kernel)
theorem s_awake14 : Sound Try.prog 4 C_awake14 :=
  sound_of_eq (env0_ok (.cons s_screw14.hid (.cons s_aIs.hid (.cons s_aCentric.hid (.nil))))) (fun x => T_awake14 ) r_awake14 fun x ok hp => p_awake14  
end Go.Fx
