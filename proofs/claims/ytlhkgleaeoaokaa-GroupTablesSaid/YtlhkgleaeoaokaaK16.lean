/-
  Contracts: awake5.
-/
import Derived.Test.YtlhkgleaeoaokaaK15
namespace Go.Fx
open Go Go.Proofs
set_option maxRecDepth 100000
set_option linter.unusedVariables false
set_option linter.unusedSimpArgs false
set_option linter.unusedSectionVars false
noncomputable def C_awake5 : Contract := { args := [], res := [.bool], pre := fun _ => True, F := fun x => ((true : Bool), ()) }
def T_awake5  : Prop :=
  (True ∧
(True ∧
∀ z0 : List Op3,
(z0 = cloL ([(Op3.mk ((M3.mk 0 (-1) 0 1 0 0 0 0 1)) (V3.mk 0 0 6))]) →
∀ z2 : Int,
(z2 = cloE ([(Op3.mk ((M3.mk 0 (-1) 0 1 0 0 0 0 1)) (V3.mk 0 0 6))]) →
(True ∧
∀ z4 : List Op3,
(z4 = cloL ([(Op3.mk (M3.mk 1 1 0 0 1 0 0 0 1) (V3.mk 0 0 0))]) →
∀ z6 : Int,
(z6 = cloE ([(Op3.mk (M3.mk 1 1 0 0 1 0 0 0 1) (V3.mk 0 0 0))]) →
(((!(decide (z2 = 0))) = true →
 (false, ()) = (true, ())) ∧
((!(decide (z2 = 0))) = false →
(((!(decide (z6 = 5))) = true →
 (false, ()) = (true, ())) ∧
((!(decide (z6 = 5))) = false →
(((!(decide ((z0.length : Int) = 4))) = true →
 (false, ()) = (true, ())) ∧
((!(decide ((z0.length : Int) = 4))) = false →
(inB z0 1 ∧
(True ∧
(((!((decide ((((z0.getD 1 zerO)).R).xx = 0)) && ((decide ((((z0.getD 1 zerO)).R).xy = (-1))) && ((decide ((((z0.getD 1 zerO)).R).xz = 0)) && ((decide ((((z0.getD 1 zerO)).R).yx = 1)) && ((decide ((((z0.getD 1 zerO)).R).yy = 0)) && ((decide ((((z0.getD 1 zerO)).R).yz = 0)) && ((decide ((((z0.getD 1 zerO)).R).zx = 0)) && ((decide ((((z0.getD 1 zerO)).R).zy = 0)) && ((decide ((((z0.getD 1 zerO)).R).zz = 1)) && ((decide ((((z0.getD 1 zerO)).T).x = 0)) && ((decide ((((z0.getD 1 zerO)).T).y = 0)) && ((decide ((((z0.getD 1 zerO)).T).z = 6)) && true))))))))))))) = true →
 (false, ()) = (true, ())) ∧
((!((decide ((((z0.getD 1 zerO)).R).xx = 0)) && ((decide ((((z0.getD 1 zerO)).R).xy = (-1))) && ((decide ((((z0.getD 1 zerO)).R).xz = 0)) && ((decide ((((z0.getD 1 zerO)).R).yx = 1)) && ((decide ((((z0.getD 1 zerO)).R).yy = 0)) && ((decide ((((z0.getD 1 zerO)).R).yz = 0)) && ((decide ((((z0.getD 1 zerO)).R).zx = 0)) && ((decide ((((z0.getD 1 zerO)).R).zy = 0)) && ((decide ((((z0.getD 1 zerO)).R).zz = 1)) && ((decide ((((z0.getD 1 zerO)).T).x = 0)) && ((decide ((((z0.getD 1 zerO)).T).y = 0)) && ((decide ((((z0.getD 1 zerO)).T).z = 6)) && true))))))))))))) = false →
(inB z0 3 ∧
(True ∧
(((!((decide ((((z0.getD 3 zerO)).R).xx = oneO.R.xx)) && ((decide ((((z0.getD 3 zerO)).R).xy = oneO.R.xy)) && ((decide ((((z0.getD 3 zerO)).R).xz = oneO.R.xz)) && ((decide ((((z0.getD 3 zerO)).R).yx = oneO.R.yx)) && ((decide ((((z0.getD 3 zerO)).R).yy = oneO.R.yy)) && ((decide ((((z0.getD 3 zerO)).R).yz = oneO.R.yz)) && ((decide ((((z0.getD 3 zerO)).R).zx = oneO.R.zx)) && ((decide ((((z0.getD 3 zerO)).R).zy = oneO.R.zy)) && ((decide ((((z0.getD 3 zerO)).R).zz = oneO.R.zz)) && ((decide ((((z0.getD 3 zerO)).T).x = oneO.T.x)) && ((decide ((((z0.getD 3 zerO)).T).y = oneO.T.y)) && ((decide ((((z0.getD 3 zerO)).T).z = oneO.T.z)) && true))))))))))))) = true →
 (false, ()) = (true, ())) ∧
((!((decide ((((z0.getD 3 zerO)).R).xx = oneO.R.xx)) && ((decide ((((z0.getD 3 zerO)).R).xy = oneO.R.xy)) && ((decide ((((z0.getD 3 zerO)).R).xz = oneO.R.xz)) && ((decide ((((z0.getD 3 zerO)).R).yx = oneO.R.yx)) && ((decide ((((z0.getD 3 zerO)).R).yy = oneO.R.yy)) && ((decide ((((z0.getD 3 zerO)).R).yz = oneO.R.yz)) && ((decide ((((z0.getD 3 zerO)).R).zx = oneO.R.zx)) && ((decide ((((z0.getD 3 zerO)).R).zy = oneO.R.zy)) && ((decide ((((z0.getD 3 zerO)).R).zz = oneO.R.zz)) && ((decide ((((z0.getD 3 zerO)).T).x = oneO.T.x)) && ((decide ((((z0.getD 3 zerO)).T).y = oneO.T.y)) && ((decide ((((z0.getD 3 zerO)).T).z = oneO.T.z)) && true))))))))))))) = false →
(inB z0 2 ∧
(True ∧
∀ z13 : Int,
(z13 = fndI z0 (((z0.getD 2 zerO))) →
∀ z15 : Int,
(z15 = fndE z0 (((z0.getD 2 zerO))) →
(True ∧
∀ z17 : List Int,
(z17 = invL z0 →
∀ z19 : Int,
(z19 = chkE z0 →
(((decide (z13 = 2)) = true →
 (((decide (z15 = 0)) = true →
  (((decide (z19 = 0)) = true →
   (((decide ((z17.length : Int) = 4)) = true →
    (inB z17 1 ∧
    (((decide ((z17.getD 1 0) = 2)) = true →
     (True ∧
     ∀ z26 : Int,
     (z26 = chkE z0 →
     (((decide (z26 = 0)) = true →
      (True ∧
      ∀ z29 : Int,
      (z29 = chkE [] →
      ((decide (z29 = 5)), ()) = (true, ())))) ∧
     ((decide (z26 = 0)) = false →
     (false, ()) = (true, ())))))) ∧
    ((decide ((z17.getD 1 0) = 2)) = false →
    (false, ()) = (true, ()))))) ∧
   ((decide ((z17.length : Int) = 4)) = false →
   (false, ()) = (true, ())))) ∧
  ((decide (z19 = 0)) = false →
  (false, ()) = (true, ())))) ∧
 ((decide (z15 = 0)) = false →
 (false, ()) = (true, ())))) ∧
((decide (z13 = 2)) = false →
(false, ()) = (true, ())))))))))))))))))))))))))))))))
theorem r_awake5 (x : HL C_awake5.args) : runs (env0 [(12, C_turn5), (11, C_gClose.hid), (13, C_r5One), (14, C_gFind.hid), (9, C_gInverses.hid), (15, C_gCheck.hid)] [] []) 400 4 C_awake5 x = T_awake5  := by kernel_rfl
theorem p_awake5   : T_awake5  := by
  unfold T_awake5
  refine ⟨trivial, trivial, fun z0 h0 z2 h2 => ⟨trivial, fun z4 h4 z6 h6 => ?_⟩⟩
  rw [show z0 = four from h0.trans aw1, show z2 = 0 from h2.trans aw2, show z6 = 5 from h6.trans aw3]
  refine ⟨fun h => absurd h (by decide), fun _ => ⟨fun h => absurd h (by decide), fun _ => ⟨fun h => absurd h (by decide), fun _ => ⟨⟨by decide, by decide⟩, trivial, fun h => absurd h (by decide +kernel), fun _ => ⟨⟨by decide, by decide⟩, trivial, fun h => absurd h (by decide +kernel), fun _ => ⟨⟨by decide, by decide⟩, trivial, fun z13 h13 z15 h15 => ⟨trivial, fun z17 h17 z19 h19 => ?_⟩⟩⟩⟩⟩⟩⟩
  rw [show z13 = 2 from h13.trans aw4, show z15 = 0 from h15.trans aw5, show z17 = [0, 2, 1, 3] from h17.trans aw6, show z19 = 0 from h19.trans aw7]
  exact ⟨fun _ => ⟨fun _ => ⟨fun _ => ⟨fun _ => ⟨⟨by decide, by decide⟩, fun _ => ⟨trivial, fun z26 h26 => ⟨fun _ => ⟨trivial, fun z29 h29 => by rw [h29, aw8]; rfl⟩, fun h => absurd h (by rw [h26, aw7]; decide)⟩⟩, fun h => absurd h (by decide)⟩, fun h => absurd h (by decide)⟩, fun h => absurd h (by decide)⟩, fun h => absurd h (by decide)⟩, fun h => absurd h (by decide)⟩
theorem s_awake5 : Sound Try.prog 4 C_awake5 :=
  sound_of_eq (env0_ok (.cons s_turn5 (.cons s_gClose.hid (.cons s_r5One (.cons s_gFind.hid (.cons s_gInverses.hid (.cons s_gCheck.hid (.nil)))))))) (fun x => T_awake5 ) r_awake5 fun x ok hp => p_awake5  
end Go.Fx
