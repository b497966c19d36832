/-
  Contracts: q3, awake3.
-/
import Derived.Test.YthljaepanhdmiaaK13
namespace Go.Fx
open Go Go.Proofs
set_option maxRecDepth 100000
set_option linter.unusedVariables false
noncomputable def C_q3 : Contract := { args := [], res := [.agg .op], pre := fun _ => True, F := fun x => ((Op3.mk (M3.mk 0 (-1) 0 1 0 0 0 0 1) (V3.mk 0 0 6) : Op3), ()) }
def T_q3  : Prop :=
  ((Op3.mk ((M3.mk 0 (-1) 0 1 0 0 0 0 1)) (V3.mk 0 0 6)), ()) = ((Op3.mk ((M3.mk 0 (-1) 0 1 0 0 0 0 1)) (V3.mk 0 0 6)), ())
theorem r_q3 (x : HL C_q3.args) : runs (env [] []) 400 34 C_q3 x = T_q3  := by kernel_rfl
theorem p_q3   : T_q3  := by
  rfl
theorem s_q3 : Sound Try.prog 34 C_q3 :=
  sound_of_eq (env_ok (.nil)) (fun x => T_q3 ) r_q3 fun x ok hp => p_q3  
noncomputable def C_awake3 : Contract := { args := [], res := [.bool], pre := fun _ => True, F := fun x => ((true : Bool), ()) }
def T_awake3  : Prop :=
  (True ∧
(True ∧
(True ∧
(True ∧
(True ∧
(True ∧
(True ∧
(((decide (oroE ((Op3.mk ((M3.mk 0 (-1) 0 1 0 0 0 0 1)) (V3.mk 0 0 6))) = 0)) = true →
 (((decide (kinE ((Op3.mk ((M3.mk 0 (-1) 0 1 0 0 0 0 1)) (V3.mk 0 0 6))) = 0)) = true →
  (((decide (mulE ((Op3.mk ((M3.mk 0 (-1) 0 1 0 0 0 0 1)) (V3.mk 0 0 6))) ((Op3.mk ((M3.mk 0 (-1) 0 1 0 0 0 0 1)) (V3.mk 0 0 6))) = 0)) = true →
   (((decide (oroZ ((Op3.mk ((M3.mk 0 (-1) 0 1 0 0 0 0 1)) (V3.mk 0 0 6))) = 4)) = true →
    (((decide (kinZ ((Op3.mk ((M3.mk 0 (-1) 0 1 0 0 0 0 1)) (V3.mk 0 0 6))) = 4)) = true →
     (((decide (((selO (mulE ((Op3.mk ((M3.mk 0 (-1) 0 1 0 0 0 0 1)) (V3.mk 0 0 6))) ((Op3.mk ((M3.mk 0 (-1) 0 1 0 0 0 0 1)) (V3.mk 0 0 6)))) (mulO ((Op3.mk ((M3.mk 0 (-1) 0 1 0 0 0 0 1)) (V3.mk 0 0 6))) ((Op3.mk ((M3.mk 0 (-1) 0 1 0 0 0 0 1)) (V3.mk 0 0 6))))).R).xx = (-1))) && ((decide (((selO (mulE ((Op3.mk ((M3.mk 0 (-1) 0 1 0 0 0 0 1)) (V3.mk 0 0 6))) ((Op3.mk ((M3.mk 0 (-1) 0 1 0 0 0 0 1)) (V3.mk 0 0 6)))) (mulO ((Op3.mk ((M3.mk 0 (-1) 0 1 0 0 0 0 1)) (V3.mk 0 0 6))) ((Op3.mk ((M3.mk 0 (-1) 0 1 0 0 0 0 1)) (V3.mk 0 0 6))))).R).xy = 0)) && ((decide (((selO (mulE ((Op3.mk ((M3.mk 0 (-1) 0 1 0 0 0 0 1)) (V3.mk 0 0 6))) ((Op3.mk ((M3.mk 0 (-1) 0 1 0 0 0 0 1)) (V3.mk 0 0 6)))) (mulO ((Op3.mk ((M3.mk 0 (-1) 0 1 0 0 0 0 1)) (V3.mk 0 0 6))) ((Op3.mk ((M3.mk 0 (-1) 0 1 0 0 0 0 1)) (V3.mk 0 0 6))))).R).xz = 0)) && ((decide (((selO (mulE ((Op3.mk ((M3.mk 0 (-1) 0 1 0 0 0 0 1)) (V3.mk 0 0 6))) ((Op3.mk ((M3.mk 0 (-1) 0 1 0 0 0 0 1)) (V3.mk 0 0 6)))) (mulO ((Op3.mk ((M3.mk 0 (-1) 0 1 0 0 0 0 1)) (V3.mk 0 0 6))) ((Op3.mk ((M3.mk 0 (-1) 0 1 0 0 0 0 1)) (V3.mk 0 0 6))))).R).yx = 0)) && ((decide (((selO (mulE ((Op3.mk ((M3.mk 0 (-1) 0 1 0 0 0 0 1)) (V3.mk 0 0 6))) ((Op3.mk ((M3.mk 0 (-1) 0 1 0 0 0 0 1)) (V3.mk 0 0 6)))) (mulO ((Op3.mk ((M3.mk 0 (-1) 0 1 0 0 0 0 1)) (V3.mk 0 0 6))) ((Op3.mk ((M3.mk 0 (-1) 0 1 0 0 0 0 1)) (V3.mk 0 0 6))))).R).yy = (-1))) && ((decide (((selO (mulE ((Op3.mk ((M3.mk 0 (-1) 0 1 0 0 0 0 1)) (V3.mk 0 0 6))) ((Op3.mk ((M3.mk 0 (-1) 0 1 0 0 0 0 1)) (V3.mk 0 0 6)))) (mulO ((Op3.mk ((M3.mk 0 (-1) 0 1 0 0 0 0 1)) (V3.mk 0 0 6))) ((Op3.mk ((M3.mk 0 (-1) 0 1 0 0 0 0 1)) (V3.mk 0 0 6))))).R).yz = 0)) && ((decide (((selO (mulE ((Op3.mk ((M3.mk 0 (-1) 0 1 0 0 0 0 1)) (V3.mk 0 0 6))) ((Op3.mk ((M3.mk 0 (-1) 0 1 0 0 0 0 1)) (V3.mk 0 0 6)))) (mulO ((Op3.mk ((M3.mk 0 (-1) 0 1 0 0 0 0 1)) (V3.mk 0 0 6))) ((Op3.mk ((M3.mk 0 (-1) 0 1 0 0 0 0 1)) (V3.mk 0 0 6))))).R).zx = 0)) && ((decide (((selO (mulE ((Op3.mk ((M3.mk 0 (-1) 0 1 0 0 0 0 1)) (V3.mk 0 0 6))) ((Op3.mk ((M3.mk 0 (-1) 0 1 0 0 0 0 1)) (V3.mk 0 0 6)))) (mulO ((Op3.mk ((M3.mk 0 (-1) 0 1 0 0 0 0 1)) (V3.mk 0 0 6))) ((Op3.mk ((M3.mk 0 (-1) 0 1 0 0 0 0 1)) (V3.mk 0 0 6))))).R).zy = 0)) && ((decide (((selO (mulE ((Op3.mk ((M3.mk 0 (-1) 0 1 0 0 0 0 1)) (V3.mk 0 0 6))) ((Op3.mk ((M3.mk 0 (-1) 0 1 0 0 0 0 1)) (V3.mk 0 0 6)))) (mulO ((Op3.mk ((M3.mk 0 (-1) 0 1 0 0 0 0 1)) (V3.mk 0 0 6))) ((Op3.mk ((M3.mk 0 (-1) 0 1 0 0 0 0 1)) (V3.mk 0 0 6))))).R).zz = 1)) && ((decide (((selO (mulE ((Op3.mk ((M3.mk 0 (-1) 0 1 0 0 0 0 1)) (V3.mk 0 0 6))) ((Op3.mk ((M3.mk 0 (-1) 0 1 0 0 0 0 1)) (V3.mk 0 0 6)))) (mulO ((Op3.mk ((M3.mk 0 (-1) 0 1 0 0 0 0 1)) (V3.mk 0 0 6))) ((Op3.mk ((M3.mk 0 (-1) 0 1 0 0 0 0 1)) (V3.mk 0 0 6))))).T).x = 0)) && ((decide (((selO (mulE ((Op3.mk ((M3.mk 0 (-1) 0 1 0 0 0 0 1)) (V3.mk 0 0 6))) ((Op3.mk ((M3.mk 0 (-1) 0 1 0 0 0 0 1)) (V3.mk 0 0 6)))) (mulO ((Op3.mk ((M3.mk 0 (-1) 0 1 0 0 0 0 1)) (V3.mk 0 0 6))) ((Op3.mk ((M3.mk 0 (-1) 0 1 0 0 0 0 1)) (V3.mk 0 0 6))))).T).y = 0)) && ((decide (((selO (mulE ((Op3.mk ((M3.mk 0 (-1) 0 1 0 0 0 0 1)) (V3.mk 0 0 6))) ((Op3.mk ((M3.mk 0 (-1) 0 1 0 0 0 0 1)) (V3.mk 0 0 6)))) (mulO ((Op3.mk ((M3.mk 0 (-1) 0 1 0 0 0 0 1)) (V3.mk 0 0 6))) ((Op3.mk ((M3.mk 0 (-1) 0 1 0 0 0 0 1)) (V3.mk 0 0 6))))).T).z = 12)) && true)))))))))))), ()) = (true, ())) ∧
    ((decide (kinZ ((Op3.mk ((M3.mk 0 (-1) 0 1 0 0 0 0 1)) (V3.mk 0 0 6))) = 4)) = false →
    (false, ()) = (true, ())))) ∧
   ((decide (oroZ ((Op3.mk ((M3.mk 0 (-1) 0 1 0 0 0 0 1)) (V3.mk 0 0 6))) = 4)) = false →
   (false, ()) = (true, ())))) ∧
  ((decide (mulE ((Op3.mk ((M3.mk 0 (-1) 0 1 0 0 0 0 1)) (V3.mk 0 0 6))) ((Op3.mk ((M3.mk 0 (-1) 0 1 0 0 0 0 1)) (V3.mk 0 0 6))) = 0)) = false →
  (false, ()) = (true, ())))) ∧
 ((decide (kinE ((Op3.mk ((M3.mk 0 (-1) 0 1 0 0 0 0 1)) (V3.mk 0 0 6))) = 0)) = false →
 (false, ()) = (true, ())))) ∧
((decide (oroE ((Op3.mk ((M3.mk 0 (-1) 0 1 0 0 0 0 1)) (V3.mk 0 0 6))) = 0)) = false →
(false, ()) = (true, ()))))))))))
theorem r_awake3 (x : HL C_awake3.args) : runs (env [(34, C_q3), (13, C_opOrder), (15, C_opKind), (23, C_opMul)] []) 400 12 C_awake3 x = T_awake3  := by kernel_rfl
theorem p_awake3   : T_awake3  := by
  unfold T_awake3
  repeat' (first | (with_reducible exact trivial) | (with_reducible apply And.intro) | (intro h; first | (exact absurd h (by decide +kernel)) | skip) | rfl)
theorem s_awake3 : Sound Try.prog 12 C_awake3 :=
  sound_of_eq (env_ok (.cons s_q3 (.cons s_opOrder (.cons s_opKind (.cons s_opMul (.nil)))))) (fun x => T_awake3 ) r_awake3 fun x ok hp => p_awake3  
end Go.Fx
