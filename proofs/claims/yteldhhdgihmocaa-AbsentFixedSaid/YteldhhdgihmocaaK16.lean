/-
  Contracts: AbsentFixed.
-/
import Derived.Test.YteldhhdgihmocaaK15
namespace Go.Fx
open Go Go.Proofs
set_option maxRecDepth 100000
set_option linter.unusedVariables false
set_option linter.unusedSimpArgs false
set_option linter.unusedSectionVars false
noncomputable def C_AbsentFixed : Contract := { args := [], res := [.bool], pre := fun _ => True, F := fun x => ((true : Bool), ()) }
def T_AbsentFixed  : Prop :=
  (True ∧
∀ z0 : Bool,
(z0 = true →
(((if (if (!z0) = true then true else false) = true then true else false) = true →
 (false, ()) = (true, ())) ∧
((if (if (!z0) = true then true else false) = true then true else false) = false →
(True ∧
(True ∧
∀ z3 : List Op3,
(z3 = cloL ([(Op3.mk oneO.R (V3.mk 12 12 0)), (Op3.mk ((M3.mk (-1) 0 0 0 1 0 0 0 (-1))) (V3.mk 0 0 0))]) →
∀ z5 : Int,
(z5 = cloE ([(Op3.mk oneO.R (V3.mk 12 12 0)), (Op3.mk ((M3.mk (-1) 0 0 0 1 0 0 0 (-1))) (V3.mk 0 0 0))]) →
(True ∧
∀ z7 : Op3,
(z7 = wyO z3 (V3.mk 1 0 0) →
∀ z9 : Int,
(z9 = wyE z3 (V3.mk 1 0 0) →
(True ∧
∀ z11 : Bool,
(z11 = isB z3 (V3.mk 1 1 0) →
∀ z13 : Int,
(z13 = isE z3 (V3.mk 1 1 0) →
(True ∧
∀ z15 : List Op3,
(z15 = scrw →
(True ∧
∀ z17 : Op3,
(z17 = wyO z15 (V3.mk 0 2 0) →
∀ z19 : Int,
(z19 = wyE z15 (V3.mk 0 2 0) →
(True ∧
∀ z21 : List Op3,
(z21 = scrw →
(True ∧
∀ z23 : Bool,
(z23 = isB z21 (V3.mk 513 0 0) →
∀ z25 : Int,
(z25 = isE z21 (V3.mk 513 0 0) →
(((!(decide (z9 = 0))) = true →
 (false, ()) = (true, ())) ∧
((!(decide (z9 = 0))) = false →
(True ∧
(((!((decide (z7.R.xx = oneO.R.xx)) && ((decide (z7.R.xy = oneO.R.xy)) && ((decide (z7.R.xz = oneO.R.xz)) && ((decide (z7.R.yx = oneO.R.yx)) && ((decide (z7.R.yy = oneO.R.yy)) && ((decide (z7.R.yz = oneO.R.yz)) && ((decide (z7.R.zx = oneO.R.zx)) && ((decide (z7.R.zy = oneO.R.zy)) && ((decide (z7.R.zz = oneO.R.zz)) && ((decide (z7.T.x = 12)) && ((decide (z7.T.y = 12)) && ((decide (z7.T.z = 0)) && true))))))))))))) = true →
 (false, ()) = (true, ())) ∧
((!((decide (z7.R.xx = oneO.R.xx)) && ((decide (z7.R.xy = oneO.R.xy)) && ((decide (z7.R.xz = oneO.R.xz)) && ((decide (z7.R.yx = oneO.R.yx)) && ((decide (z7.R.yy = oneO.R.yy)) && ((decide (z7.R.yz = oneO.R.yz)) && ((decide (z7.R.zx = oneO.R.zx)) && ((decide (z7.R.zy = oneO.R.zy)) && ((decide (z7.R.zz = oneO.R.zz)) && ((decide (z7.T.x = 12)) && ((decide (z7.T.y = 12)) && ((decide (z7.T.z = 0)) && true))))))))))))) = false →
(((!(decide (z13 = 0))) = true →
 (false, ()) = (true, ())) ∧
((!(decide (z13 = 0))) = false →
((z11 = true →
 (false, ()) = (true, ())) ∧
(z11 = false →
(((!(decide (z19 = 9))) = true →
 (false, ()) = (true, ())) ∧
((!(decide (z19 = 9))) = false →
(((!(decide (z25 = 1))) = true →
 (false, ()) = (true, ())) ∧
((!(decide (z25 = 1))) = false →
(True ∧
∀ z33 : List Op3,
(z33 = cloL ([(Op3.mk ((M3.mk 0 (-1) 0 1 0 0 0 0 1)) (V3.mk 0 0 6))]) →
∀ z35 : Int,
(z35 = cloE ([(Op3.mk ((M3.mk 0 (-1) 0 1 0 0 0 0 1)) (V3.mk 0 0 6))]) →
(True ∧
∀ z37 : Bool,
(z37 = isB z33 (V3.mk 0 0 0) →
∀ z39 : Int,
(z39 = isE z33 (V3.mk 0 0 0) →
(((!(decide (z39 = 0))) = true →
 (false, ()) = (true, ())) ∧
((!(decide (z39 = 0))) = false →
(((!(z37 == false)) = true →
 (false, ()) = (true, ())) ∧
((!(z37 == false)) = false →
(True ∧
∀ z43 : Bool,
(z43 = isB z33 (V3.mk 0 0 1) →
∀ z45 : Int,
(z45 = isE z33 (V3.mk 0 0 1) →
(((!(decide (z45 = 0))) = true →
 (false, ()) = (true, ())) ∧
((!(decide (z45 = 0))) = false →
(((!(z43 == true)) = true →
 (false, ()) = (true, ())) ∧
((!(z43 == true)) = false →
(True ∧
∀ z49 : Bool,
(z49 = isB z33 (V3.mk 0 0 2) →
∀ z51 : Int,
(z51 = isE z33 (V3.mk 0 0 2) →
(((!(decide (z51 = 0))) = true →
 (false, ()) = (true, ())) ∧
((!(decide (z51 = 0))) = false →
(((!(z49 == true)) = true →
 (false, ()) = (true, ())) ∧
((!(z49 == true)) = false →
(True ∧
∀ z55 : Bool,
(z55 = isB z33 (V3.mk 0 0 3) →
∀ z57 : Int,
(z57 = isE z33 (V3.mk 0 0 3) →
(((!(decide (z57 = 0))) = true →
 (false, ()) = (true, ())) ∧
((!(decide (z57 = 0))) = false →
(((!(z55 == true)) = true →
 (false, ()) = (true, ())) ∧
((!(z55 == true)) = false →
(True ∧
∀ z61 : Bool,
(z61 = isB z33 (V3.mk 0 0 4) →
∀ z63 : Int,
(z63 = isE z33 (V3.mk 0 0 4) →
(((!(decide (z63 = 0))) = true →
 (false, ()) = (true, ())) ∧
((!(decide (z63 = 0))) = false →
(((!(z61 == false)) = true →
 (false, ()) = (true, ())) ∧
((!(z61 == false)) = false →
(True ∧
∀ z67 : Bool,
(z67 = isB z33 (V3.mk 0 0 5) →
∀ z69 : Int,
(z69 = isE z33 (V3.mk 0 0 5) →
(((!(decide (z69 = 0))) = true →
 (false, ()) = (true, ())) ∧
((!(decide (z69 = 0))) = false →
(((!(z67 == true)) = true →
 (false, ()) = (true, ())) ∧
((!(z67 == true)) = false →
(True ∧
∀ z73 : Bool,
(z73 = isB z33 (V3.mk 0 0 6) →
∀ z75 : Int,
(z75 = isE z33 (V3.mk 0 0 6) →
(((!(decide (z75 = 0))) = true →
 (false, ()) = (true, ())) ∧
((!(decide (z75 = 0))) = false →
(((!(z73 == true)) = true →
 (false, ()) = (true, ())) ∧
((!(z73 == true)) = false →
(True ∧
∀ z79 : Bool,
(z79 = isB z33 (V3.mk 0 0 7) →
∀ z81 : Int,
(z81 = isE z33 (V3.mk 0 0 7) →
(((!(decide (z81 = 0))) = true →
 (false, ()) = (true, ())) ∧
((!(decide (z81 = 0))) = false →
(((!(z79 == true)) = true →
 (false, ()) = (true, ())) ∧
((!(z79 == true)) = false →
(True ∧
∀ z85 : Bool,
(z85 = isB z33 (V3.mk 0 0 8) →
∀ z87 : Int,
(z87 = isE z33 (V3.mk 0 0 8) →
(((!(decide (z87 = 0))) = true →
 (false, ()) = (true, ())) ∧
((!(decide (z87 = 0))) = false →
(((!(z85 == false)) = true →
 (false, ()) = (true, ())) ∧
((!(z85 == false)) = false →
(True ∧
∀ z91 : List Op3,
(z91 = cloL ([(Op3.mk ((M3.mk (-1) 0 0 0 (-1) 0 0 0 1)) (V3.mk 12 0 12)), (Op3.mk ((M3.mk (-1) 0 0 0 1 0 0 0 (-1))) (V3.mk 0 12 12))]) →
∀ z93 : Int,
(z93 = cloE ([(Op3.mk ((M3.mk (-1) 0 0 0 (-1) 0 0 0 1)) (V3.mk 12 0 12)), (Op3.mk ((M3.mk (-1) 0 0 0 1 0 0 0 (-1))) (V3.mk 0 12 12))]) →
(True ∧
∀ z95 : Int,
(z95 = ceI z91 (V3.mk 1 1 0) →
∀ z97 : Bool,
(z97 = ceB z91 (V3.mk 1 1 0) →
∀ z99 : Int,
(z99 = isE z91 (V3.mk 1 1 0) →
(True ∧
∀ z101 : List Op3,
(z101 = scrw →
(True ∧
∀ z103 : Int,
(z103 = ceI z101 (V3.mk 1 1 0) →
∀ z105 : Bool,
(z105 = ceB z101 (V3.mk 1 1 0) →
∀ z107 : Int,
(z107 = isE z101 (V3.mk 1 1 0) →
(True ∧
∀ z109 : List Op3,
(z109 = scrw →
(True ∧
∀ z111 : Int,
(z111 = ceI z109 (V3.mk 0 0 0) →
∀ z113 : Bool,
(z113 = ceB z109 (V3.mk 0 0 0) →
∀ z115 : Int,
(z115 = isE z109 (V3.mk 0 0 0) →
(((!(decide (z99 = 0))) = true →
 (false, ()) = (true, ())) ∧
((!(decide (z99 = 0))) = false →
(((!z97) = true →
 (false, ()) = (true, ())) ∧
((!z97) = false →
(((!(decide (z95 = 12))) = true →
 (false, ()) = (true, ())) ∧
((!(decide (z95 = 12))) = false →
(((!(decide (z107 = 0))) = true →
 (false, ()) = (true, ())) ∧
((!(decide (z107 = 0))) = false →
((z105 = true →
 (false, ()) = (true, ())) ∧
(z105 = false →
(((!(decide (z103 = 0))) = true →
 (false, ()) = (true, ())) ∧
((!(decide (z103 = 0))) = false →
(((!(decide (z115 = 0))) = true →
 (false, ()) = (true, ())) ∧
((!(decide (z115 = 0))) = false →
(((!z113) = true →
 (false, ()) = (true, ())) ∧
((!z113) = false →
(((!(decide (z111 = 0))) = true →
 (false, ()) = (true, ())) ∧
((!(decide (z111 = 0))) = false →
((leP 0 4097 ∧
 lfit 24 ((lrep 4097 (V3.mk 0 0 0)))) ∧
(True ∧
∀ z126 : List Op3,
(z126 = scrw →
(True ∧
∀ z128 : List V3,
(z128 = srP z126 ((lrep 4097 (V3.mk 0 0 0))) →
∀ z130 : List V3,
(z130 = srA z126 ((lrep 4097 (V3.mk 0 0 0))) →
∀ z132 : Int,
(z132 = abE z126 ((lrep 4097 (V3.mk 0 0 0))) →
(True ∧
((leP 0 0 ∧
 (leP 0 4096 ∧
 leP 4096 ((((lrep 4097 (V3.mk 0 0 0))).length : Int)))) ∧
(True ∧
(inB ((lrep 4097 (V3.mk 0 0 0))) 7 ∧
(True ∧
∀ z134 : List V3,
(z134 = srP [] (lset ((lrep 4097 (V3.mk 0 0 0))) 7 ((V3.mk 0 (-513) 0))) →
∀ z136 : List V3,
(z136 = srA [] (lset ((lrep 4097 (V3.mk 0 0 0))) 7 ((V3.mk 0 (-513) 0))) →
∀ z138 : Int,
(z138 = abE [] (lset ((lrep 4097 (V3.mk 0 0 0))) 7 ((V3.mk 0 (-513) 0))) →
((leP 0 0 ∧
 (leP 0 7 ∧
 leP 7 (((lset ((lrep 4097 (V3.mk 0 0 0))) 7 ((V3.mk 0 (-513) 0))).length : Int)))) ∧
(True ∧
∀ z140 : List V3,
(z140 = srP [] (lsub (lset ((lrep 4097 (V3.mk 0 0 0))) 7 ((V3.mk 0 (-513) 0))) 0 7) →
∀ z142 : List V3,
(z142 = srA [] (lsub (lset ((lrep 4097 (V3.mk 0 0 0))) 7 ((V3.mk 0 (-513) 0))) 0 7) →
∀ z144 : Int,
(z144 = abE [] (lsub (lset ((lrep 4097 (V3.mk 0 0 0))) 7 ((V3.mk 0 (-513) 0))) 0 7) →
(True ∧
∀ z146 : Int,
(z146 = ceI ([zerO]) (V3.mk 0 0 513) →
∀ z148 : Bool,
(z148 = ceB ([zerO]) (V3.mk 0 0 513) →
∀ z150 : Int,
(z150 = isE ([zerO]) (V3.mk 0 0 513) →
(((decide (z132 = 2)) = true →
 (((decide (abE scrw (lsub ((lrep 4097 (V3.mk 0 0 0))) 0 4096) = 0)) = true →
  (((decide (((srP scrw (lsub ((lrep 4097 (V3.mk 0 0 0))) 0 4096)).length : Int) = 4096)) = true →
   (((decide (((srA scrw (lsub ((lrep 4097 (V3.mk 0 0 0))) 0 4096)).length : Int) = 0)) = true →
    (((decide (z138 = 1)) = true →
     (((decide (z144 = 5)) = true →
      ((decide (z150 = 1)), ()) = (true, ())) ∧
     ((decide (z144 = 5)) = false →
     (false, ()) = (true, ())))) ∧
    ((decide (z138 = 1)) = false →
    (false, ()) = (true, ())))) ∧
   ((decide (((srA scrw (lsub ((lrep 4097 (V3.mk 0 0 0))) 0 4096)).length : Int) = 0)) = false →
   (false, ()) = (true, ())))) ∧
  ((decide (((srP scrw (lsub ((lrep 4097 (V3.mk 0 0 0))) 0 4096)).length : Int) = 4096)) = false →
  (false, ()) = (true, ())))) ∧
 ((decide (abE scrw (lsub ((lrep 4097 (V3.mk 0 0 0))) 0 4096) = 0)) = false →
 (false, ()) = (true, ())))) ∧
((decide (z132 = 2)) = false →
(false, ()) = (true, ())))))))))))))))))))))))))))))))))))))))))))))))))))))))))))))))))))))))))))))))))))))))))))))))))))))))))))))))))))))))))))))))))))))))))))))))))))))))))))))))))))))))
theorem r_AbsentFixed (x : HL C_AbsentFixed.args) : runs (env0 [(10, C_awake14.hid), (22, C_screw14.hid), (21, C_opOne), (20, C_gClose.hid), (11, C_aIs.hid), (13, C_aWhy.hid), (15, C_aCentric.hid), (17, C_aSort.hid)] [] []) 1500 6 C_AbsentFixed x = T_AbsentFixed  := by kernel_rfl
set_option maxHeartbeats 4000000 in
theorem p_AbsentFixed   : T_AbsentFixed  := by
  unfold T_AbsentFixed
  repeat' (first
    | exact trivial
    | rfl
    | (refine And.intro ?_ ?_)
    | (intro z; intro hz; subst hz)
    | (intro h; first | exact absurd h (by decide +kernel) | skip)
    | (unfold leP; decide +kernel)
    | (unfold lfit; decide +kernel)
    | decide +kernel)
theorem s_AbsentFixed : Sound Try.prog 6 C_AbsentFixed :=
  sound_of_eq (env0_ok (.cons s_awake14.hid (.cons s_screw14.hid (.cons s_opOne (.cons s_gClose.hid (.cons s_aIs.hid (.cons s_aWhy.hid (.cons s_aCentric.hid (.cons s_aSort.hid (.nil)))))))))) (fun x => T_AbsentFixed ) r_AbsentFixed fun x ok hp => p_AbsentFixed  
end Go.Fx
