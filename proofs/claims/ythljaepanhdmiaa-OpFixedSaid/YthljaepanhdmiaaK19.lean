/-
  Contracts: shear3, OpFixed.
-/
import Derived.Test.YthljaepanhdmiaaK18
namespace Go.Fx
open Go Go.Proofs
set_option maxRecDepth 100000
set_option linter.unusedVariables false
noncomputable def C_shear3 : Contract := { args := [.int .i64], res := [.agg .op], pre := fun _ => True, F := fun x => ((Op3.mk (M3.mk 1 x.1 0 0 1 0 0 0 1) (V3.mk 0 0 0) : Op3), ()) }
def T_shear3 (n : Int) : Prop :=
  ((Op3.mk (M3.mk 1 n 0 0 1 0 0 0 1) (V3.mk 0 0 0)), ()) = ((Op3.mk (M3.mk 1 n 0 0 1 0 0 0 1) (V3.mk 0 0 0)), ())
theorem r_shear3 (x : HL C_shear3.args) : runs (env [] []) 400 35 C_shear3 x = T_shear3 x.1 := by kernel_rfl
theorem p_shear3 (n : Int) (h0 : (Sh.int .i64).okA n) : T_shear3 n := by
  rfl
theorem s_shear3 : Sound Try.prog 35 C_shear3 :=
  sound_of_eq (env_ok (.nil)) (fun x => T_shear3 x.1) r_shear3 fun x ok hp => p_shear3 x.1 ok.1
noncomputable def C_OpFixed : Contract := { args := [], res := [.bool], pre := fun _ => True, F := fun x => ((true : Bool), ()) }
def T_OpFixed  : Prop :=
  (True ∧
(((if (if (!true) = true then true else false) = true then true else false) = true →
 (false, ()) = (true, ())) ∧
((if (if (!true) = true then true else false) = true then true else false) = false →
(True ∧
(True ∧
(True ∧
(True ∧
(True ∧
(((!(decide (oroE ((Op3.mk oneO.R (V3.mk 8 0 0))) = 0))) = true →
 (false, ()) = (true, ())) ∧
((!(decide (oroE ((Op3.mk oneO.R (V3.mk 8 0 0))) = 0))) = false →
(((!(decide (kinE ((Op3.mk oneO.R (V3.mk 8 0 0))) = 0))) = true →
 (false, ()) = (true, ())) ∧
((!(decide (kinE ((Op3.mk oneO.R (V3.mk 8 0 0))) = 0))) = false →
(((!(decide (oroZ ((Op3.mk oneO.R (V3.mk 8 0 0))) = 3))) = true →
 (false, ()) = (true, ())) ∧
((!(decide (oroZ ((Op3.mk oneO.R (V3.mk 8 0 0))) = 3))) = false →
(((!(decide (kinZ ((Op3.mk oneO.R (V3.mk 8 0 0))) = 1))) = true →
 (false, ()) = (true, ())) ∧
((!(decide (kinZ ((Op3.mk oneO.R (V3.mk 8 0 0))) = 1))) = false →
(True ∧
(True ∧
(((!(decide (oroE ((Op3.mk ((M3.mk (-1) 0 0 0 (-1) 0 0 0 (-1))) (V3.mk 0 0 12))) = 0))) = true →
 (false, ()) = (true, ())) ∧
((!(decide (oroE ((Op3.mk ((M3.mk (-1) 0 0 0 (-1) 0 0 0 (-1))) (V3.mk 0 0 12))) = 0))) = false →
(((!(decide (kinE ((Op3.mk ((M3.mk (-1) 0 0 0 (-1) 0 0 0 (-1))) (V3.mk 0 0 12))) = 0))) = true →
 (false, ()) = (true, ())) ∧
((!(decide (kinE ((Op3.mk ((M3.mk (-1) 0 0 0 (-1) 0 0 0 (-1))) (V3.mk 0 0 12))) = 0))) = false →
(((!(decide (oroZ ((Op3.mk ((M3.mk (-1) 0 0 0 (-1) 0 0 0 (-1))) (V3.mk 0 0 12))) = 2))) = true →
 (false, ()) = (true, ())) ∧
((!(decide (oroZ ((Op3.mk ((M3.mk (-1) 0 0 0 (-1) 0 0 0 (-1))) (V3.mk 0 0 12))) = 2))) = false →
(((!(decide (kinZ ((Op3.mk ((M3.mk (-1) 0 0 0 (-1) 0 0 0 (-1))) (V3.mk 0 0 12))) = (-1)))) = true →
 (false, ()) = (true, ())) ∧
((!(decide (kinZ ((Op3.mk ((M3.mk (-1) 0 0 0 (-1) 0 0 0 (-1))) (V3.mk 0 0 12))) = (-1)))) = false →
(True ∧
(True ∧
(((!(decide (oroE ((Op3.mk ((M3.mk 1 (-1) 0 1 0 0 0 0 1)) (V3.mk 0 0 6))) = 0))) = true →
 (false, ()) = (true, ())) ∧
((!(decide (oroE ((Op3.mk ((M3.mk 1 (-1) 0 1 0 0 0 0 1)) (V3.mk 0 0 6))) = 0))) = false →
(((!(decide (kinE ((Op3.mk ((M3.mk 1 (-1) 0 1 0 0 0 0 1)) (V3.mk 0 0 6))) = 0))) = true →
 (false, ()) = (true, ())) ∧
((!(decide (kinE ((Op3.mk ((M3.mk 1 (-1) 0 1 0 0 0 0 1)) (V3.mk 0 0 6))) = 0))) = false →
(((!(decide (oroZ ((Op3.mk ((M3.mk 1 (-1) 0 1 0 0 0 0 1)) (V3.mk 0 0 6))) = 12))) = true →
 (false, ()) = (true, ())) ∧
((!(decide (oroZ ((Op3.mk ((M3.mk 1 (-1) 0 1 0 0 0 0 1)) (V3.mk 0 0 6))) = 12))) = false →
(((!(decide (kinZ ((Op3.mk ((M3.mk 1 (-1) 0 1 0 0 0 0 1)) (V3.mk 0 0 6))) = 6))) = true →
 (false, ()) = (true, ())) ∧
((!(decide (kinZ ((Op3.mk ((M3.mk 1 (-1) 0 1 0 0 0 0 1)) (V3.mk 0 0 6))) = 6))) = false →
(True ∧
(True ∧
(((!(decide (oroE ((Op3.mk ((M3.mk 0 (-1) 0 1 0 0 0 0 1)) (V3.mk 0 0 1))) = 0))) = true →
 (false, ()) = (true, ())) ∧
((!(decide (oroE ((Op3.mk ((M3.mk 0 (-1) 0 1 0 0 0 0 1)) (V3.mk 0 0 1))) = 0))) = false →
(((!(decide (kinE ((Op3.mk ((M3.mk 0 (-1) 0 1 0 0 0 0 1)) (V3.mk 0 0 1))) = 0))) = true →
 (false, ()) = (true, ())) ∧
((!(decide (kinE ((Op3.mk ((M3.mk 0 (-1) 0 1 0 0 0 0 1)) (V3.mk 0 0 1))) = 0))) = false →
(((!(decide (oroZ ((Op3.mk ((M3.mk 0 (-1) 0 1 0 0 0 0 1)) (V3.mk 0 0 1))) = 24))) = true →
 (false, ()) = (true, ())) ∧
((!(decide (oroZ ((Op3.mk ((M3.mk 0 (-1) 0 1 0 0 0 0 1)) (V3.mk 0 0 1))) = 24))) = false →
(((!(decide (kinZ ((Op3.mk ((M3.mk 0 (-1) 0 1 0 0 0 0 1)) (V3.mk 0 0 1))) = 4))) = true →
 (false, ()) = (true, ())) ∧
((!(decide (kinZ ((Op3.mk ((M3.mk 0 (-1) 0 1 0 0 0 0 1)) (V3.mk 0 0 1))) = 4))) = false →
(True ∧
(True ∧
(((!(decide (oroE oneO = 0))) = true →
 (false, ()) = (true, ())) ∧
((!(decide (oroE oneO = 0))) = false →
(((!(decide (kinE oneO = 0))) = true →
 (false, ()) = (true, ())) ∧
((!(decide (kinE oneO = 0))) = false →
(((!(decide (oroZ oneO = 1))) = true →
 (false, ()) = (true, ())) ∧
((!(decide (oroZ oneO = 1))) = false →
(((!(decide (kinZ oneO = 1))) = true →
 (false, ()) = (true, ())) ∧
((!(decide (kinZ oneO = 1))) = false →
(True ∧
(True ∧
(((!(decide (oroE ((Op3.mk ((M3.mk 0 1 0 (-1) 0 0 0 0 (-1))) (V3.mk 0 0 0))) = 0))) = true →
 (false, ()) = (true, ())) ∧
((!(decide (oroE ((Op3.mk ((M3.mk 0 1 0 (-1) 0 0 0 0 (-1))) (V3.mk 0 0 0))) = 0))) = false →
(((!(decide (kinE ((Op3.mk ((M3.mk 0 1 0 (-1) 0 0 0 0 (-1))) (V3.mk 0 0 0))) = 0))) = true →
 (false, ()) = (true, ())) ∧
((!(decide (kinE ((Op3.mk ((M3.mk 0 1 0 (-1) 0 0 0 0 (-1))) (V3.mk 0 0 0))) = 0))) = false →
(((!(decide (oroZ ((Op3.mk ((M3.mk 0 1 0 (-1) 0 0 0 0 (-1))) (V3.mk 0 0 0))) = 4))) = true →
 (false, ()) = (true, ())) ∧
((!(decide (oroZ ((Op3.mk ((M3.mk 0 1 0 (-1) 0 0 0 0 (-1))) (V3.mk 0 0 0))) = 4))) = false →
(((!(decide (kinZ ((Op3.mk ((M3.mk 0 1 0 (-1) 0 0 0 0 (-1))) (V3.mk 0 0 0))) = (-4)))) = true →
 (false, ()) = (true, ())) ∧
((!(decide (kinZ ((Op3.mk ((M3.mk 0 1 0 (-1) 0 0 0 0 (-1))) (V3.mk 0 0 0))) = (-4)))) = false →
(True ∧
(True ∧
(((!(decide (oroE ((Op3.mk ((M3.mk 0 1 0 (-1) 1 0 0 0 (-1))) (V3.mk 0 0 0))) = 0))) = true →
 (false, ()) = (true, ())) ∧
((!(decide (oroE ((Op3.mk ((M3.mk 0 1 0 (-1) 1 0 0 0 (-1))) (V3.mk 0 0 0))) = 0))) = false →
(((!(decide (kinE ((Op3.mk ((M3.mk 0 1 0 (-1) 1 0 0 0 (-1))) (V3.mk 0 0 0))) = 0))) = true →
 (false, ()) = (true, ())) ∧
((!(decide (kinE ((Op3.mk ((M3.mk 0 1 0 (-1) 1 0 0 0 (-1))) (V3.mk 0 0 0))) = 0))) = false →
(((!(decide (oroZ ((Op3.mk ((M3.mk 0 1 0 (-1) 1 0 0 0 (-1))) (V3.mk 0 0 0))) = 6))) = true →
 (false, ()) = (true, ())) ∧
((!(decide (oroZ ((Op3.mk ((M3.mk 0 1 0 (-1) 1 0 0 0 (-1))) (V3.mk 0 0 0))) = 6))) = false →
(((!(decide (kinZ ((Op3.mk ((M3.mk 0 1 0 (-1) 1 0 0 0 (-1))) (V3.mk 0 0 0))) = (-3)))) = true →
 (false, ()) = (true, ())) ∧
((!(decide (kinZ ((Op3.mk ((M3.mk 0 1 0 (-1) 1 0 0 0 (-1))) (V3.mk 0 0 0))) = (-3)))) = false →
(True ∧
(True ∧
(((!(decide (oroE ((Op3.mk ((M3.mk 1 0 0 0 (-1) 0 0 0 1)) (V3.mk 0 0 0))) = 0))) = true →
 (false, ()) = (true, ())) ∧
((!(decide (oroE ((Op3.mk ((M3.mk 1 0 0 0 (-1) 0 0 0 1)) (V3.mk 0 0 0))) = 0))) = false →
(((!(decide (kinE ((Op3.mk ((M3.mk 1 0 0 0 (-1) 0 0 0 1)) (V3.mk 0 0 0))) = 0))) = true →
 (false, ()) = (true, ())) ∧
((!(decide (kinE ((Op3.mk ((M3.mk 1 0 0 0 (-1) 0 0 0 1)) (V3.mk 0 0 0))) = 0))) = false →
(((!(decide (oroZ ((Op3.mk ((M3.mk 1 0 0 0 (-1) 0 0 0 1)) (V3.mk 0 0 0))) = 2))) = true →
 (false, ()) = (true, ())) ∧
((!(decide (oroZ ((Op3.mk ((M3.mk 1 0 0 0 (-1) 0 0 0 1)) (V3.mk 0 0 0))) = 2))) = false →
(((!(decide (kinZ ((Op3.mk ((M3.mk 1 0 0 0 (-1) 0 0 0 1)) (V3.mk 0 0 0))) = (-2)))) = true →
 (false, ()) = (true, ())) ∧
((!(decide (kinZ ((Op3.mk ((M3.mk 1 0 0 0 (-1) 0 0 0 1)) (V3.mk 0 0 0))) = (-2)))) = false →
(True ∧
(True ∧
(True ∧
(True ∧
(True ∧
(True ∧
(True ∧
(True ∧
(True ∧
(True ∧
(True ∧
(((!(decide (oroE ((Op3.mk (M3.mk 1 1 0 0 1 0 0 0 1) (V3.mk 0 0 0))) = 9))) = true →
 (false, ()) = (true, ())) ∧
((!(decide (oroE ((Op3.mk (M3.mk 1 1 0 0 1 0 0 0 1) (V3.mk 0 0 0))) = 9))) = false →
(((!(decide (kinE ((Op3.mk (M3.mk 1 1 0 0 1 0 0 0 1) (V3.mk 0 0 0))) = 9))) = true →
 (false, ()) = (true, ())) ∧
((!(decide (kinE ((Op3.mk (M3.mk 1 1 0 0 1 0 0 0 1) (V3.mk 0 0 0))) = 9))) = false →
(((!(decide (powE ((Op3.mk (M3.mk 1 2 0 0 1 0 0 0 1) (V3.mk 0 0 0))) (-500) = 0))) = true →
 (false, ()) = (true, ())) ∧
((!(decide (powE ((Op3.mk (M3.mk 1 2 0 0 1 0 0 0 1) (V3.mk 0 0 0))) (-500) = 0))) = false →
(True ∧
(((!((decide (((powO ((Op3.mk (M3.mk 1 2 0 0 1 0 0 0 1) (V3.mk 0 0 0))) (-500)).R).xx = 1)) && ((decide (((powO ((Op3.mk (M3.mk 1 2 0 0 1 0 0 0 1) (V3.mk 0 0 0))) (-500)).R).xy = (-1000))) && ((decide (((powO ((Op3.mk (M3.mk 1 2 0 0 1 0 0 0 1) (V3.mk 0 0 0))) (-500)).R).xz = 0)) && ((decide (((powO ((Op3.mk (M3.mk 1 2 0 0 1 0 0 0 1) (V3.mk 0 0 0))) (-500)).R).yx = 0)) && ((decide (((powO ((Op3.mk (M3.mk 1 2 0 0 1 0 0 0 1) (V3.mk 0 0 0))) (-500)).R).yy = 1)) && ((decide (((powO ((Op3.mk (M3.mk 1 2 0 0 1 0 0 0 1) (V3.mk 0 0 0))) (-500)).R).yz = 0)) && ((decide (((powO ((Op3.mk (M3.mk 1 2 0 0 1 0 0 0 1) (V3.mk 0 0 0))) (-500)).R).zx = 0)) && ((decide (((powO ((Op3.mk (M3.mk 1 2 0 0 1 0 0 0 1) (V3.mk 0 0 0))) (-500)).R).zy = 0)) && ((decide (((powO ((Op3.mk (M3.mk 1 2 0 0 1 0 0 0 1) (V3.mk 0 0 0))) (-500)).R).zz = 1)) && ((decide (((powO ((Op3.mk (M3.mk 1 2 0 0 1 0 0 0 1) (V3.mk 0 0 0))) (-500)).T).x = 0)) && ((decide (((powO ((Op3.mk (M3.mk 1 2 0 0 1 0 0 0 1) (V3.mk 0 0 0))) (-500)).T).y = 0)) && ((decide (((powO ((Op3.mk (M3.mk 1 2 0 0 1 0 0 0 1) (V3.mk 0 0 0))) (-500)).T).z = 0)) && true))))))))))))) = true →
 (false, ()) = (true, ())) ∧
((!((decide (((powO ((Op3.mk (M3.mk 1 2 0 0 1 0 0 0 1) (V3.mk 0 0 0))) (-500)).R).xx = 1)) && ((decide (((powO ((Op3.mk (M3.mk 1 2 0 0 1 0 0 0 1) (V3.mk 0 0 0))) (-500)).R).xy = (-1000))) && ((decide (((powO ((Op3.mk (M3.mk 1 2 0 0 1 0 0 0 1) (V3.mk 0 0 0))) (-500)).R).xz = 0)) && ((decide (((powO ((Op3.mk (M3.mk 1 2 0 0 1 0 0 0 1) (V3.mk 0 0 0))) (-500)).R).yx = 0)) && ((decide (((powO ((Op3.mk (M3.mk 1 2 0 0 1 0 0 0 1) (V3.mk 0 0 0))) (-500)).R).yy = 1)) && ((decide (((powO ((Op3.mk (M3.mk 1 2 0 0 1 0 0 0 1) (V3.mk 0 0 0))) (-500)).R).yz = 0)) && ((decide (((powO ((Op3.mk (M3.mk 1 2 0 0 1 0 0 0 1) (V3.mk 0 0 0))) (-500)).R).zx = 0)) && ((decide (((powO ((Op3.mk (M3.mk 1 2 0 0 1 0 0 0 1) (V3.mk 0 0 0))) (-500)).R).zy = 0)) && ((decide (((powO ((Op3.mk (M3.mk 1 2 0 0 1 0 0 0 1) (V3.mk 0 0 0))) (-500)).R).zz = 1)) && ((decide (((powO ((Op3.mk (M3.mk 1 2 0 0 1 0 0 0 1) (V3.mk 0 0 0))) (-500)).T).x = 0)) && ((decide (((powO ((Op3.mk (M3.mk 1 2 0 0 1 0 0 0 1) (V3.mk 0 0 0))) (-500)).T).y = 0)) && ((decide (((powO ((Op3.mk (M3.mk 1 2 0 0 1 0 0 0 1) (V3.mk 0 0 0))) (-500)).T).z = 0)) && true))))))))))))) = false →
(((!(decide (powE ((Op3.mk (M3.mk 1 2 0 0 1 0 0 0 1) (V3.mk 0 0 0))) 501 = 4))) = true →
 (false, ()) = (true, ())) ∧
((!(decide (powE ((Op3.mk (M3.mk 1 2 0 0 1 0 0 0 1) (V3.mk 0 0 0))) 501 = 4))) = false →
(((!(decide (powE ((Op3.mk (M3.mk 1 1 0 0 1 0 0 0 1) (V3.mk 0 0 0))) 1001 = 1))) = true →
 (false, ()) = (true, ())) ∧
((!(decide (powE ((Op3.mk (M3.mk 1 1 0 0 1 0 0 0 1) (V3.mk 0 0 0))) 1001 = 1))) = false →
(((!(decide (powE ((Op3.mk (M3.mk 0 0 0 0 0 0 0 0 0) (V3.mk 0 0 0))) 1001 = 1))) = true →
 (false, ()) = (true, ())) ∧
((!(decide (powE ((Op3.mk (M3.mk 0 0 0 0 0 0 0 0 0) (V3.mk 0 0 0))) 1001 = 1))) = false →
(True ∧
(True ∧
(True ∧
(True ∧
(True ∧
(True ∧
(True ∧
(True ∧
(True ∧
(True ∧
(True ∧
(True ∧
(((!(decide (mulE ((Op3.mk (M3.mk 1 1000 0 0 1 0 0 0 1) (V3.mk 0 0 0))) ((Op3.mk (M3.mk 1 1 0 0 1 0 0 0 1) (V3.mk 0 0 0))) = 4))) = true →
 (false, ()) = (true, ())) ∧
((!(decide (mulE ((Op3.mk (M3.mk 1 1000 0 0 1 0 0 0 1) (V3.mk 0 0 0))) ((Op3.mk (M3.mk 1 1 0 0 1 0 0 0 1) (V3.mk 0 0 0))) = 4))) = false →
(((!(decide (mulE ((Op3.mk (M3.mk 1 1001 0 0 1 0 0 0 1) (V3.mk 0 0 0))) oneO = 4))) = true →
 (false, ()) = (true, ())) ∧
((!(decide (mulE ((Op3.mk (M3.mk 1 1001 0 0 1 0 0 0 1) (V3.mk 0 0 0))) oneO = 4))) = false →
(((!(decide (mulE ((Op3.mk (M3.mk 1 1001 0 0 1 0 0 0 1) (V3.mk 0 0 0))) ((Op3.mk (M3.mk 0 0 0 0 0 0 0 0 0) (V3.mk 0 0 0))) = 3))) = true →
 (false, ()) = (true, ())) ∧
((!(decide (mulE ((Op3.mk (M3.mk 1 1001 0 0 1 0 0 0 1) (V3.mk 0 0 0))) ((Op3.mk (M3.mk 0 0 0 0 0 0 0 0 0) (V3.mk 0 0 0))) = 3))) = false →
(((!(decide (uniE (M3.mk 0 0 0 0 0 0 0 0 0) = 3))) = true →
 (false, ()) = (true, ())) ∧
((!(decide (uniE (M3.mk 0 0 0 0 0 0 0 0 0) = 3))) = false →
(((!(decide (uniE oneO.R = 0))) = true →
 (false, ()) = (true, ())) ∧
((!(decide (uniE oneO.R = 0))) = false →
(((!((decide (((selO (uniE oneO.R) ((Op3.mk oneO.R (modV 24 ((V3.mk (-1) 24 49)))))).T).x = 23)) && ((decide (((selO (uniE oneO.R) ((Op3.mk oneO.R (modV 24 ((V3.mk (-1) 24 49)))))).T).y = 0)) && ((decide (((selO (uniE oneO.R) ((Op3.mk oneO.R (modV 24 ((V3.mk (-1) 24 49)))))).T).z = 1)) && true)))) = true →
 (false, ()) = (true, ())) ∧
((!((decide (((selO (uniE oneO.R) ((Op3.mk oneO.R (modV 24 ((V3.mk (-1) 24 49)))))).T).x = 23)) && ((decide (((selO (uniE oneO.R) ((Op3.mk oneO.R (modV 24 ((V3.mk (-1) 24 49)))))).T).y = 0)) && ((decide (((selO (uniE oneO.R) ((Op3.mk oneO.R (modV 24 ((V3.mk (-1) 24 49)))))).T).z = 1)) && true)))) = false →
(((!(decide (oroE ((Op3.mk (M3.mk 1 1001 0 0 1 0 0 0 1) ((V3.mk (-1) 0 0)))) = 3))) = true →
 (false, ()) = (true, ())) ∧
((!(decide (oroE ((Op3.mk (M3.mk 1 1001 0 0 1 0 0 0 1) ((V3.mk (-1) 0 0)))) = 3))) = false →
(True ∧
(True ∧
(True ∧
(True ∧
(True ∧
(True ∧
(True ∧
(True ∧
(True ∧
(((decide (invE ((Op3.mk (M3.mk 1 1000 0 0 1 1000 0 0 1) (V3.mk 0 0 0))) = 4)) = true →
 (((decide (oroE ((Op3.mk (M3.mk 1 1000 0 0 1 1000 0 0 1) (V3.mk 0 0 0))) = 9)) = true →
  (((decide (oroE ((Op3.mk ((M3.mk 1000 (-999) 0 1001 (-1000) 0 0 0 1)) (V3.mk 0 0 0))) = 4)) = true →
   (((decide (oroE ((Op3.mk ((M3.mk (-1) 1000 0 0 1 1000 0 0 (-1))) (V3.mk 0 0 0))) = 9)) = true →
    (((decide (oroZ ((Op3.mk ((M3.mk (-1) 1000 0 0 1 1000 0 0 (-1))) (V3.mk 0 0 0))) = 0)) = true →
     (((decide (powE ((Op3.mk ((M3.mk (-1) 1000 0 0 1 1000 0 0 (-1))) (V3.mk 0 0 0))) 2 = 4)) = true →
      (((decide (appE ((Op3.mk ((M3.mk 0 (-1) 0 1 0 0 0 0 1)) (V3.mk 0 0 6))) ((Pt.mk 48 (V3.mk 5 1 47))) = 0)) = true →
       ((((decide ((appP ((Op3.mk ((M3.mk 0 (-1) 0 1 0 0 0 0 1)) (V3.mk 0 0 6))) ((Pt.mk 48 (V3.mk 5 1 47)))).M = 48)) && ((decide (((appP ((Op3.mk ((M3.mk 0 (-1) 0 1 0 0 0 0 1)) (V3.mk 0 0 6))) ((Pt.mk 48 (V3.mk 5 1 47)))).X).x = 47)) && ((decide (((appP ((Op3.mk ((M3.mk 0 (-1) 0 1 0 0 0 0 1)) (V3.mk 0 0 6))) ((Pt.mk 48 (V3.mk 5 1 47)))).X).y = 5)) && ((decide (((appP ((Op3.mk ((M3.mk 0 (-1) 0 1 0 0 0 0 1)) (V3.mk 0 0 6))) ((Pt.mk 48 (V3.mk 5 1 47)))).X).z = 11)) && true)))) = true →
        ((decide (appE ((Op3.mk ((M3.mk 0 (-1) 0 1 0 0 0 0 1)) (V3.mk 0 0 6))) ((Pt.mk 25 (V3.mk 0 0 0))) = 3)), ()) = (true, ())) ∧
       (((decide ((appP ((Op3.mk ((M3.mk 0 (-1) 0 1 0 0 0 0 1)) (V3.mk 0 0 6))) ((Pt.mk 48 (V3.mk 5 1 47)))).M = 48)) && ((decide (((appP ((Op3.mk ((M3.mk 0 (-1) 0 1 0 0 0 0 1)) (V3.mk 0 0 6))) ((Pt.mk 48 (V3.mk 5 1 47)))).X).x = 47)) && ((decide (((appP ((Op3.mk ((M3.mk 0 (-1) 0 1 0 0 0 0 1)) (V3.mk 0 0 6))) ((Pt.mk 48 (V3.mk 5 1 47)))).X).y = 5)) && ((decide (((appP ((Op3.mk ((M3.mk 0 (-1) 0 1 0 0 0 0 1)) (V3.mk 0 0 6))) ((Pt.mk 48 (V3.mk 5 1 47)))).X).z = 11)) && true)))) = false →
       (false, ()) = (true, ())))) ∧
      ((decide (appE ((Op3.mk ((M3.mk 0 (-1) 0 1 0 0 0 0 1)) (V3.mk 0 0 6))) ((Pt.mk 48 (V3.mk 5 1 47))) = 0)) = false →
      (false, ()) = (true, ())))) ∧
     ((decide (powE ((Op3.mk ((M3.mk (-1) 1000 0 0 1 1000 0 0 (-1))) (V3.mk 0 0 0))) 2 = 4)) = false →
     (false, ()) = (true, ())))) ∧
    ((decide (oroZ ((Op3.mk ((M3.mk (-1) 1000 0 0 1 1000 0 0 (-1))) (V3.mk 0 0 0))) = 0)) = false →
    (false, ()) = (true, ())))) ∧
   ((decide (oroE ((Op3.mk ((M3.mk (-1) 1000 0 0 1 1000 0 0 (-1))) (V3.mk 0 0 0))) = 9)) = false →
   (false, ()) = (true, ())))) ∧
  ((decide (oroE ((Op3.mk ((M3.mk 1000 (-999) 0 1001 (-1000) 0 0 0 1)) (V3.mk 0 0 0))) = 4)) = false →
  (false, ()) = (true, ())))) ∧
 ((decide (oroE ((Op3.mk (M3.mk 1 1000 0 0 1 1000 0 0 1) (V3.mk 0 0 0))) = 9)) = false →
 (false, ()) = (true, ())))) ∧
((decide (invE ((Op3.mk (M3.mk 1 1000 0 0 1 1000 0 0 1) (V3.mk 0 0 0))) = 4)) = false →
(false, ()) = (true, ()))))))))))))))))))))))))))))))))))))))))))))))))))))))))))))))))))))))))))))))))))))))))))))))))))))))))))))))))))))))))))))))))))))))))))))))))))))))
theorem r_OpFixed (x : HL C_OpFixed.args) : runs (env [(12, C_awake3), (13, C_opOrder), (15, C_opKind), (29, C_opPower), (23, C_opMul), (17, C_opMake), (25, C_opInverse), (31, C_opApply), (21, C_opOne), (34, C_q3), (35, C_shear3)] []) 1200 11 C_OpFixed x = T_OpFixed  := by kernel_rfl
theorem p_OpFixed   : T_OpFixed  := by
  unfold T_OpFixed
  repeat' (first | (with_reducible exact trivial) | (with_reducible apply And.intro) | (intro h; first | (exact absurd h (by decide +kernel)) | skip) | rfl | decide +kernel)
theorem s_OpFixed : Sound Try.prog 11 C_OpFixed :=
  sound_of_eq (env_ok (.cons s_awake3 (.cons s_opOrder (.cons s_opKind (.cons s_opPower (.cons s_opMul (.cons s_opMake (.cons s_opInverse (.cons s_opApply (.cons s_opOne (.cons s_q3 (.cons s_shear3 (.nil))))))))))))) (fun x => T_OpFixed ) r_OpFixed fun x ok hp => p_OpFixed  
end Go.Fx
