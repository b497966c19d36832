/-
  Contracts: awake.
-/
import Derived.Test.YtgnidjcidocpkaaK6
namespace Go.Fx
open Go Go.Proofs
set_option maxRecDepth 100000
set_option linter.unusedVariables false
noncomputable def C_awake : Contract := { args := [], res := [.bool], pre := fun _ => True, F := fun x => ((true : Bool), ()) }
def T_awake  : Prop :=
  (True ∧
(True ∧
(True ∧
(True ∧
(True ∧
(True ∧
(((decide (err2 (errM ((M3.mk 0 (-1) 0 1 0 0 0 0 1))) (errM ((M3.mk 0 (-1) 0 1 0 0 0 0 1))) = 0)) = true →
 (((decide (err2 (errM ((M3.mk 0 (-1) 0 1 0 0 0 0 1))) (errV (V3.mk 1 2 3)) = 0)) = true →
  (((decide (err2 (errM ((M3.mk 0 (-1) 0 1 0 0 0 0 1))) (errV (V3.mk 1 2 3)) = 0)) = true →
   (((decide (ordE ((M3.mk 0 (-1) 0 1 0 0 0 0 1)) = 0)) = true →
    (((decide (errM (M3.mk 2 0 0 0 3 0 0 0 5) = 0)) = true →
     ((((decide ((selM (err2 (errM ((M3.mk 0 (-1) 0 1 0 0 0 0 1))) (errM ((M3.mk 0 (-1) 0 1 0 0 0 0 1)))) (wM (mulZ ((M3.mk 0 (-1) 0 1 0 0 0 0 1)) ((M3.mk 0 (-1) 0 1 0 0 0 0 1))))).xx = (-1))) && ((decide ((selM (err2 (errM ((M3.mk 0 (-1) 0 1 0 0 0 0 1))) (errM ((M3.mk 0 (-1) 0 1 0 0 0 0 1)))) (wM (mulZ ((M3.mk 0 (-1) 0 1 0 0 0 0 1)) ((M3.mk 0 (-1) 0 1 0 0 0 0 1))))).xy = 0)) && ((decide ((selM (err2 (errM ((M3.mk 0 (-1) 0 1 0 0 0 0 1))) (errM ((M3.mk 0 (-1) 0 1 0 0 0 0 1)))) (wM (mulZ ((M3.mk 0 (-1) 0 1 0 0 0 0 1)) ((M3.mk 0 (-1) 0 1 0 0 0 0 1))))).xz = 0)) && ((decide ((selM (err2 (errM ((M3.mk 0 (-1) 0 1 0 0 0 0 1))) (errM ((M3.mk 0 (-1) 0 1 0 0 0 0 1)))) (wM (mulZ ((M3.mk 0 (-1) 0 1 0 0 0 0 1)) ((M3.mk 0 (-1) 0 1 0 0 0 0 1))))).yx = 0)) && ((decide ((selM (err2 (errM ((M3.mk 0 (-1) 0 1 0 0 0 0 1))) (errM ((M3.mk 0 (-1) 0 1 0 0 0 0 1)))) (wM (mulZ ((M3.mk 0 (-1) 0 1 0 0 0 0 1)) ((M3.mk 0 (-1) 0 1 0 0 0 0 1))))).yy = (-1))) && ((decide ((selM (err2 (errM ((M3.mk 0 (-1) 0 1 0 0 0 0 1))) (errM ((M3.mk 0 (-1) 0 1 0 0 0 0 1)))) (wM (mulZ ((M3.mk 0 (-1) 0 1 0 0 0 0 1)) ((M3.mk 0 (-1) 0 1 0 0 0 0 1))))).yz = 0)) && ((decide ((selM (err2 (errM ((M3.mk 0 (-1) 0 1 0 0 0 0 1))) (errM ((M3.mk 0 (-1) 0 1 0 0 0 0 1)))) (wM (mulZ ((M3.mk 0 (-1) 0 1 0 0 0 0 1)) ((M3.mk 0 (-1) 0 1 0 0 0 0 1))))).zx = 0)) && ((decide ((selM (err2 (errM ((M3.mk 0 (-1) 0 1 0 0 0 0 1))) (errM ((M3.mk 0 (-1) 0 1 0 0 0 0 1)))) (wM (mulZ ((M3.mk 0 (-1) 0 1 0 0 0 0 1)) ((M3.mk 0 (-1) 0 1 0 0 0 0 1))))).zy = 0)) && ((decide ((selM (err2 (errM ((M3.mk 0 (-1) 0 1 0 0 0 0 1))) (errM ((M3.mk 0 (-1) 0 1 0 0 0 0 1)))) (wM (mulZ ((M3.mk 0 (-1) 0 1 0 0 0 0 1)) ((M3.mk 0 (-1) 0 1 0 0 0 0 1))))).zz = 1)) && true))))))))) = true →
      ((((decide ((selV (err2 (errM ((M3.mk 0 (-1) 0 1 0 0 0 0 1))) (errV (V3.mk 1 2 3))) (wV (appZ ((M3.mk 0 (-1) 0 1 0 0 0 0 1)) (V3.mk 1 2 3)))).x = (-2))) && ((decide ((selV (err2 (errM ((M3.mk 0 (-1) 0 1 0 0 0 0 1))) (errV (V3.mk 1 2 3))) (wV (appZ ((M3.mk 0 (-1) 0 1 0 0 0 0 1)) (V3.mk 1 2 3)))).y = 1)) && ((decide ((selV (err2 (errM ((M3.mk 0 (-1) 0 1 0 0 0 0 1))) (errV (V3.mk 1 2 3))) (wV (appZ ((M3.mk 0 (-1) 0 1 0 0 0 0 1)) (V3.mk 1 2 3)))).z = 3)) && true))) = true →
       ((((decide ((selV (err2 (errM ((M3.mk 0 (-1) 0 1 0 0 0 0 1))) (errV (V3.mk 1 2 3))) (wV (appZ (traZ ((M3.mk 0 (-1) 0 1 0 0 0 0 1))) (V3.mk 1 2 3)))).x = 2)) && ((decide ((selV (err2 (errM ((M3.mk 0 (-1) 0 1 0 0 0 0 1))) (errV (V3.mk 1 2 3))) (wV (appZ (traZ ((M3.mk 0 (-1) 0 1 0 0 0 0 1))) (V3.mk 1 2 3)))).y = (-1))) && ((decide ((selV (err2 (errM ((M3.mk 0 (-1) 0 1 0 0 0 0 1))) (errV (V3.mk 1 2 3))) (wV (appZ (traZ ((M3.mk 0 (-1) 0 1 0 0 0 0 1))) (V3.mk 1 2 3)))).z = 3)) && true))) = true →
        (((decide (ordZ ((M3.mk 0 (-1) 0 1 0 0 0 0 1)) = 4)) = true →
         (((decide (selI (errM (M3.mk 2 0 0 0 3 0 0 0 5)) (w64 (detZ (M3.mk 2 0 0 0 3 0 0 0 5))) = 30)) = true →
          (True ∧
          ((decide (cmpM (selM (err2 (errM ((M3.mk 0 (-1) 0 1 0 0 0 0 1))) (errM ((M3.mk 0 (-1) 0 1 0 0 0 0 1)))) (wM (mulZ ((M3.mk 0 (-1) 0 1 0 0 0 0 1)) ((M3.mk 0 (-1) 0 1 0 0 0 0 1))))) ((M3.mk 0 (-1) 0 1 0 0 0 0 1)) = (-1))), ()) = (true, ()))) ∧
         ((decide (selI (errM (M3.mk 2 0 0 0 3 0 0 0 5)) (w64 (detZ (M3.mk 2 0 0 0 3 0 0 0 5))) = 30)) = false →
         (false, ()) = (true, ())))) ∧
        ((decide (ordZ ((M3.mk 0 (-1) 0 1 0 0 0 0 1)) = 4)) = false →
        (false, ()) = (true, ())))) ∧
       (((decide ((selV (err2 (errM ((M3.mk 0 (-1) 0 1 0 0 0 0 1))) (errV (V3.mk 1 2 3))) (wV (appZ (traZ ((M3.mk 0 (-1) 0 1 0 0 0 0 1))) (V3.mk 1 2 3)))).x = 2)) && ((decide ((selV (err2 (errM ((M3.mk 0 (-1) 0 1 0 0 0 0 1))) (errV (V3.mk 1 2 3))) (wV (appZ (traZ ((M3.mk 0 (-1) 0 1 0 0 0 0 1))) (V3.mk 1 2 3)))).y = (-1))) && ((decide ((selV (err2 (errM ((M3.mk 0 (-1) 0 1 0 0 0 0 1))) (errV (V3.mk 1 2 3))) (wV (appZ (traZ ((M3.mk 0 (-1) 0 1 0 0 0 0 1))) (V3.mk 1 2 3)))).z = 3)) && true))) = false →
       (false, ()) = (true, ())))) ∧
      (((decide ((selV (err2 (errM ((M3.mk 0 (-1) 0 1 0 0 0 0 1))) (errV (V3.mk 1 2 3))) (wV (appZ ((M3.mk 0 (-1) 0 1 0 0 0 0 1)) (V3.mk 1 2 3)))).x = (-2))) && ((decide ((selV (err2 (errM ((M3.mk 0 (-1) 0 1 0 0 0 0 1))) (errV (V3.mk 1 2 3))) (wV (appZ ((M3.mk 0 (-1) 0 1 0 0 0 0 1)) (V3.mk 1 2 3)))).y = 1)) && ((decide ((selV (err2 (errM ((M3.mk 0 (-1) 0 1 0 0 0 0 1))) (errV (V3.mk 1 2 3))) (wV (appZ ((M3.mk 0 (-1) 0 1 0 0 0 0 1)) (V3.mk 1 2 3)))).z = 3)) && true))) = false →
      (false, ()) = (true, ())))) ∧
     (((decide ((selM (err2 (errM ((M3.mk 0 (-1) 0 1 0 0 0 0 1))) (errM ((M3.mk 0 (-1) 0 1 0 0 0 0 1)))) (wM (mulZ ((M3.mk 0 (-1) 0 1 0 0 0 0 1)) ((M3.mk 0 (-1) 0 1 0 0 0 0 1))))).xx = (-1))) && ((decide ((selM (err2 (errM ((M3.mk 0 (-1) 0 1 0 0 0 0 1))) (errM ((M3.mk 0 (-1) 0 1 0 0 0 0 1)))) (wM (mulZ ((M3.mk 0 (-1) 0 1 0 0 0 0 1)) ((M3.mk 0 (-1) 0 1 0 0 0 0 1))))).xy = 0)) && ((decide ((selM (err2 (errM ((M3.mk 0 (-1) 0 1 0 0 0 0 1))) (errM ((M3.mk 0 (-1) 0 1 0 0 0 0 1)))) (wM (mulZ ((M3.mk 0 (-1) 0 1 0 0 0 0 1)) ((M3.mk 0 (-1) 0 1 0 0 0 0 1))))).xz = 0)) && ((decide ((selM (err2 (errM ((M3.mk 0 (-1) 0 1 0 0 0 0 1))) (errM ((M3.mk 0 (-1) 0 1 0 0 0 0 1)))) (wM (mulZ ((M3.mk 0 (-1) 0 1 0 0 0 0 1)) ((M3.mk 0 (-1) 0 1 0 0 0 0 1))))).yx = 0)) && ((decide ((selM (err2 (errM ((M3.mk 0 (-1) 0 1 0 0 0 0 1))) (errM ((M3.mk 0 (-1) 0 1 0 0 0 0 1)))) (wM (mulZ ((M3.mk 0 (-1) 0 1 0 0 0 0 1)) ((M3.mk 0 (-1) 0 1 0 0 0 0 1))))).yy = (-1))) && ((decide ((selM (err2 (errM ((M3.mk 0 (-1) 0 1 0 0 0 0 1))) (errM ((M3.mk 0 (-1) 0 1 0 0 0 0 1)))) (wM (mulZ ((M3.mk 0 (-1) 0 1 0 0 0 0 1)) ((M3.mk 0 (-1) 0 1 0 0 0 0 1))))).yz = 0)) && ((decide ((selM (err2 (errM ((M3.mk 0 (-1) 0 1 0 0 0 0 1))) (errM ((M3.mk 0 (-1) 0 1 0 0 0 0 1)))) (wM (mulZ ((M3.mk 0 (-1) 0 1 0 0 0 0 1)) ((M3.mk 0 (-1) 0 1 0 0 0 0 1))))).zx = 0)) && ((decide ((selM (err2 (errM ((M3.mk 0 (-1) 0 1 0 0 0 0 1))) (errM ((M3.mk 0 (-1) 0 1 0 0 0 0 1)))) (wM (mulZ ((M3.mk 0 (-1) 0 1 0 0 0 0 1)) ((M3.mk 0 (-1) 0 1 0 0 0 0 1))))).zy = 0)) && ((decide ((selM (err2 (errM ((M3.mk 0 (-1) 0 1 0 0 0 0 1))) (errM ((M3.mk 0 (-1) 0 1 0 0 0 0 1)))) (wM (mulZ ((M3.mk 0 (-1) 0 1 0 0 0 0 1)) ((M3.mk 0 (-1) 0 1 0 0 0 0 1))))).zz = 1)) && true))))))))) = false →
     (false, ()) = (true, ())))) ∧
    ((decide (errM (M3.mk 2 0 0 0 3 0 0 0 5) = 0)) = false →
    (false, ()) = (true, ())))) ∧
   ((decide (ordE ((M3.mk 0 (-1) 0 1 0 0 0 0 1)) = 0)) = false →
   (false, ()) = (true, ())))) ∧
  ((decide (err2 (errM ((M3.mk 0 (-1) 0 1 0 0 0 0 1))) (errV (V3.mk 1 2 3)) = 0)) = false →
  (false, ()) = (true, ())))) ∧
 ((decide (err2 (errM ((M3.mk 0 (-1) 0 1 0 0 0 0 1))) (errV (V3.mk 1 2 3)) = 0)) = false →
 (false, ()) = (true, ())))) ∧
((decide (err2 (errM ((M3.mk 0 (-1) 0 1 0 0 0 0 1))) (errM ((M3.mk 0 (-1) 0 1 0 0 0 0 1))) = 0)) = false →
(false, ()) = (true, ())))))))))
theorem r_awake (x : HL C_awake.args) : runs (env [(37, C_quarter), (11, C_Mul), (12, C_Apply), (13, C_Left), (22, C_Det), (19, C_Compare), (27, C_Order)] []) 400 10 C_awake x = T_awake  := by kernel_rfl
theorem p_awake   : T_awake  := by
  unfold T_awake
  repeat' (first | (with_reducible exact trivial) | (with_reducible apply And.intro) | (intro h; first | (exact absurd h (by decide +kernel)) | skip) | rfl)
theorem s_awake : Sound Try.prog 10 C_awake :=
  sound_of_eq (env_ok (.cons s_quarter (.cons s_Mul (.cons s_Apply (.cons s_Left (.cons s_Det (.cons s_Compare (.cons s_Order (.nil))))))))) (fun x => T_awake ) r_awake fun x ok hp => p_awake  
end Go.Fx
