/-
  Contracts: UnitFixed.
-/
import Derived.Test.YtolbgdfbdlddaaaK20
namespace Go.Fx
open Go Go.Proofs
set_option maxRecDepth 100000
set_option linter.unusedVariables false
set_option linter.unusedSimpArgs false
set_option linter.unusedSectionVars false
noncomputable def C_UnitFixed : Contract := { args := [], res := [.bool], pre := fun _ => True, F := fun x => ((true : Bool), ()) }
def T_UnitFixed  : Prop :=
  (True ∧
∀ z0 : Bool,
(z0 = true →
(((if (if (!z0) = true then true else false) = true then true else false) = true →
 (false, ()) = (true, ())) ∧
((if (if (!z0) = true then true else false) = true then true else false) = false →
(True ∧
(True ∧
∀ z3 : List V3,
(z3 = fiL pairU (V3.mk 2 2 1) →
∀ z5 : List Int,
(z5 = ciL pairU (V3.mk 2 2 1) →
∀ z7 : Int,
(z7 = fuE pairU (V3.mk 2 2 1) →
(True ∧
(True ∧
∀ z9 : List Int,
(z9 = fxL pairU (V3.mk 2 2 1) →
∀ z11 : Int,
(z11 = fuE pairU (V3.mk 2 2 1) →
(True ∧
(True ∧
∀ z13 : List Int,
(z13 = fxL pairU (V3.mk 3 1 1) →
∀ z15 : Int,
(z15 = fuE pairU (V3.mk 3 1 1) →
(True ∧
(True ∧
∀ z17 : List Int,
(z17 = owL pairU (V3.mk 3 1 1) →
∀ z19 : Int,
(z19 = fuE pairU (V3.mk 3 1 1) →
(((!(decide (z7 = 0))) = true →
 (false, ()) = (true, ())) ∧
((!(decide (z7 = 0))) = false →
(((!(decide (z11 = 0))) = true →
 (false, ()) = (true, ())) ∧
((!(decide (z11 = 0))) = false →
(((!(decide (z15 = 0))) = true →
 (false, ()) = (true, ())) ∧
((!(decide (z15 = 0))) = false →
(((!(decide (z19 = 0))) = true →
 (false, ()) = (true, ())) ∧
((!(decide (z19 = 0))) = false →
(True ∧
∀ z25 : Bool,
(z25 = smW z3 ([(V3.mk 0 0 0), (V3.mk 0 1 0), (V3.mk 1 0 0), (V3.mk 1 1 0)]) →
(((!z25) = true →
 (false, ()) = (true, ())) ∧
((!z25) = false →
(True ∧
∀ z28 : Bool,
(z28 = smI z5 ([1, 1, 1, 1]) →
(((!z28) = true →
 (false, ()) = (true, ())) ∧
((!z28) = false →
(True ∧
∀ z31 : Bool,
(z31 = smI z9 ([4, 4]) →
(((!z31) = true →
 (false, ()) = (true, ())) ∧
((!z31) = false →
(True ∧
∀ z34 : Bool,
(z34 = smI z13 ([1, 3]) →
(((!z34) = true →
 (false, ()) = (true, ())) ∧
((!z34) = false →
(True ∧
∀ z37 : Bool,
(z37 = smI z17 ([0, 1, 1]) →
(((!z37) = true →
 (false, ()) = (true, ())) ∧
((!z37) = false →
(True ∧
∀ z40 : List Op3,
(z40 = cloL ([(Op3.mk ((M3.mk 0 (-1) 0 1 0 0 0 0 1)) (V3.mk 0 0 0))]) →
∀ z42 : Int,
(z42 = cloE ([(Op3.mk ((M3.mk 0 (-1) 0 1 0 0 0 0 1)) (V3.mk 0 0 0))]) →
(True ∧
(True ∧
∀ z44 : List Op3,
(z44 = cloL ([(Op3.mk oneO.R (V3.mk 0 12 0))]) →
∀ z46 : Int,
(z46 = cloE ([(Op3.mk oneO.R (V3.mk 0 12 0))]) →
(True ∧
(True ∧
∀ z48 : List Op3,
(z48 = cloL ([(Op3.mk oneO.R (V3.mk 0 0 1))]) →
∀ z50 : Int,
(z50 = cloE ([(Op3.mk oneO.R (V3.mk 0 0 1))]) →
(True ∧
∀ z52 : Int,
(z52 = fuE z40 (V3.mk 4 4 1) →
(((!(decide (z52 = 0))) = true →
 (false, ()) = (true, ())) ∧
((!(decide (z52 = 0))) = false →
(True ∧
∀ z55 : Int,
(z55 = fuE z40 (V3.mk 4 2 1) →
(((!(decide (z55 = 6))) = true →
 (false, ()) = (true, ())) ∧
((!(decide (z55 = 6))) = false →
(True ∧
∀ z58 : Int,
(z58 = fuE z44 (V3.mk 5 4 7) →
(((!(decide (z58 = 0))) = true →
 (false, ()) = (true, ())) ∧
((!(decide (z58 = 0))) = false →
(True ∧
∀ z61 : Int,
(z61 = fuE z44 (V3.mk 1 3 1) →
(((!(decide (z61 = 6))) = true →
 (false, ()) = (true, ())) ∧
((!(decide (z61 = 6))) = false →
(True ∧
∀ z64 : Int,
(z64 = fuE z48 (V3.mk 1 1 48) →
(((!(decide (z64 = 0))) = true →
 (false, ()) = (true, ())) ∧
((!(decide (z64 = 0))) = false →
(True ∧
∀ z67 : Int,
(z67 = fuE z48 (V3.mk 1 1 12) →
(((!(decide (z67 = 6))) = true →
 (false, ()) = (true, ())) ∧
((!(decide (z67 = 6))) = false →
(True ∧
∀ z70 : V3,
(z70 = muV ((Op3.mk ((M3.mk 0 (-1) 0 1 0 0 0 0 1)) (V3.mk 0 0 12))) (V3.mk 4 4 2) (V3.mk 1 2 1) →
∀ z72 : Int,
(z72 = muE ((Op3.mk ((M3.mk 0 (-1) 0 1 0 0 0 0 1)) (V3.mk 0 0 12))) (V3.mk 4 4 2) (V3.mk 1 2 1) →
(True ∧
∀ z74 : V3,
(z74 = muV ((Op3.mk ((M3.mk 0 (-1) 0 1 0 0 0 0 1)) (V3.mk 0 0 12))) (V3.mk 4 4 2) (V3.mk 4 0 0) →
∀ z76 : Int,
(z76 = muE ((Op3.mk ((M3.mk 0 (-1) 0 1 0 0 0 0 1)) (V3.mk 0 0 12))) (V3.mk 4 4 2) (V3.mk 4 0 0) →
(True ∧
∀ z78 : V3,
(z78 = muV ((Op3.mk ((M3.mk 0 (-1) 0 1 0 0 0 0 1)) (V3.mk 0 0 12))) (V3.mk 4 4 1) (V3.mk 1 2 0) →
∀ z80 : Int,
(z80 = muE ((Op3.mk ((M3.mk 0 (-1) 0 1 0 0 0 0 1)) (V3.mk 0 0 12))) (V3.mk 4 4 1) (V3.mk 1 2 0) →
(True ∧
∀ z82 : V3,
(z82 = muV (zerO) (V3.mk 4 4 1) ((V3.mk 0 0 (-1))) →
∀ z84 : Int,
(z84 = muE (zerO) (V3.mk 4 4 1) ((V3.mk 0 0 (-1))) →
(True ∧
∀ z86 : V3,
(z86 = muV (zerO) (V3.mk 192 192 192) (V3.mk 0 0 0) →
∀ z88 : Int,
(z88 = muE (zerO) (V3.mk 192 192 192) (V3.mk 0 0 0) →
(((!(decide (z72 = 0))) = true →
 (false, ()) = (true, ())) ∧
((!(decide (z72 = 0))) = false →
(((!((decide (z70.x = 2)) && ((decide (z70.y = 1)) && ((decide (z70.z = 0)) && true)))) = true →
 (false, ()) = (true, ())) ∧
((!((decide (z70.x = 2)) && ((decide (z70.y = 1)) && ((decide (z70.z = 0)) && true)))) = false →
(((!(decide (z76 = 1))) = true →
 (false, ()) = (true, ())) ∧
((!(decide (z76 = 1))) = false →
(((!(decide (z80 = 6))) = true →
 (false, ()) = (true, ())) ∧
((!(decide (z80 = 6))) = false →
(((!(decide (z84 = 1))) = true →
 (false, ()) = (true, ())) ∧
((!(decide (z84 = 1))) = false →
(((!(decide (z88 = 2))) = true →
 (false, ()) = (true, ())) ∧
((!(decide (z88 = 2))) = false →
(True ∧
(True ∧
∀ z96 : Int,
(z96 = fuE [oneO] (V3.mk 193 1 1) →
(((decide (z96 = 1)) = true →
 (True ∧
 ∀ z99 : Int,
 (z99 = fuE [oneO] (V3.mk 0 1 1) →
 (((decide (z99 = 1)) = true →
  (True ∧
  ∀ z102 : Int,
  (z102 = fuE [] (V3.mk 0 1 1) →
  (((decide (z102 = 1)) = true →
   (True ∧
   ∀ z105 : Int,
   (z105 = fuE [oneO] (V3.mk 192 192 192) →
   (((decide (z105 = 2)) = true →
    (True ∧
    ∀ z108 : Int,
    (z108 = fuE [oneO] (V3.mk 64 64 64) →
    (((decide (z108 = 0)) = true →
     (True ∧
     ∀ z111 : Int,
     (z111 = fuE [] (V3.mk 1 1 1) →
     (((decide (z111 = 5)) = true →
      (True ∧
      ∀ z114 : Int,
      (z114 = fuE ([zerO]) (V3.mk 1 1 1) →
      ((decide (z114 = 3)), ()) = (true, ())))) ∧
     ((decide (z111 = 5)) = false →
     (false, ()) = (true, ())))))) ∧
    ((decide (z108 = 0)) = false →
    (false, ()) = (true, ())))))) ∧
   ((decide (z105 = 2)) = false →
   (false, ()) = (true, ())))))) ∧
  ((decide (z102 = 1)) = false →
  (false, ()) = (true, ())))))) ∧
 ((decide (z99 = 1)) = false →
 (false, ()) = (true, ())))))) ∧
((decide (z96 = 1)) = false →
(false, ()) = (true, ())))))))))))))))))))))))))))))))))))))))))))))))))))))))))))))))))))))))))))))))))))))))))))))))))))))))))))))))))))))
theorem r_UnitFixed (x : HL C_UnitFixed.args) : runs (env0 [(13, C_awake10.hid), (31, C_both10), (42, C_turn10), (33, C_opOne), (19, C_uFirsts.hid), (20, C_uOwner.hid), (24, C_uFixed.hid), (14, C_uFits.hid), (16, C_uMove.hid), (32, C_gClose.hid), (23, C_ints10.hid), (26, C_vecs10.hid)] [] []) 3000 10 C_UnitFixed x = T_UnitFixed  := by kernel_rfl
set_option maxHeartbeats 4000000 in
theorem p_UnitFixed   : T_UnitFixed  := by
  unfold T_UnitFixed
  have fa : ∀ {α : Type} {e : α} {P : α → Prop}, P e → ∀ z, z = e → P z := fun h z hz => hz ▸ h
  repeat' (first
    | exact trivial
    | (refine And.intro ?_ ?_)
    | (refine fa ?_)
    | (intro h; first | exact absurd h (by decide +kernel) | skip)
    | decide +kernel
    | rfl)
theorem s_UnitFixed : Sound Try.prog 10 C_UnitFixed :=
  sound_of_eq (env0_ok (.cons s_awake10.hid (.cons s_both10 (.cons s_turn10 (.cons s_opOne (.cons s_uFirsts.hid (.cons s_uOwner.hid (.cons s_uFixed.hid (.cons s_uFits.hid (.cons s_uMove.hid (.cons s_gClose.hid (.cons s_ints10.hid (.cons s_vecs10.hid (.nil)))))))))))))) (fun x => T_UnitFixed ) r_UnitFixed fun x ok hp => p_UnitFixed  
end Go.Fx
