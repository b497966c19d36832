/-
  Contracts: f7of, f7same, awake7.
-/
import Derived.Test.YtkchandelfmoaaaK9
namespace Go.Fx
open Go Go.Proofs
set_option maxRecDepth 100000
set_option linter.unusedVariables false
noncomputable def C_f7of : Contract := { args := [.agg .chg], res := [.agg .chg], pre := fun _ => True, F := fun x => ((x.1 : Chg), ()) }
def T_f7of (c : Chg) : Prop :=
  (c, ()) = (c, ())
theorem r_f7of (x : HL C_f7of.args) : runs (env [] []) 400 11 C_f7of x = T_f7of x.1 := by kernel_rfl
theorem p_f7of (c : Chg) (h0 : (Sh.agg .chg).okA c) : T_f7of c := by
  rfl
theorem s_f7of : Sound Try.prog 11 C_f7of :=
  sound_of_eq (env_ok (.nil)) (fun x => T_f7of x.1) r_f7of fun x ok hp => p_f7of x.1 ok.1
noncomputable def C_f7same : Contract := { args := [.agg .chg, .agg .chg], res := [.bool], pre := fun _ => True, F := fun x => ((eqC x.1 x.2.1 : Bool), ()) }
def T_f7same (a : Chg) (b : Chg) : Prop :=
  ((((decide (a.P.xx = b.P.xx)) && ((decide (a.P.xy = b.P.xy)) && ((decide (a.P.xz = b.P.xz)) && ((decide (a.P.yx = b.P.yx)) && ((decide (a.P.yy = b.P.yy)) && ((decide (a.P.yz = b.P.yz)) && ((decide (a.P.zx = b.P.zx)) && ((decide (a.P.zy = b.P.zy)) && ((decide (a.P.zz = b.P.zz)) && true))))))))) = true →
 (((decide (a.O.x = b.O.x)) && ((decide (a.O.y = b.O.y)) && ((decide (a.O.z = b.O.z)) && true))), ()) = (eqC a b, ())) ∧
(((decide (a.P.xx = b.P.xx)) && ((decide (a.P.xy = b.P.xy)) && ((decide (a.P.xz = b.P.xz)) && ((decide (a.P.yx = b.P.yx)) && ((decide (a.P.yy = b.P.yy)) && ((decide (a.P.yz = b.P.yz)) && ((decide (a.P.zx = b.P.zx)) && ((decide (a.P.zy = b.P.zy)) && ((decide (a.P.zz = b.P.zz)) && true))))))))) = false →
(false, ()) = (eqC a b, ())))
theorem r_f7same (x : HL C_f7same.args) : runs (env [] []) 400 20 C_f7same x = T_f7same x.1 x.2.1 := by kernel_rfl
theorem p_f7same (a : Chg) (b : Chg) (h0 : (Sh.agg .chg).okA a) (h1 : (Sh.agg .chg).okA b) : T_f7same a b := by
  unfold T_f7same eqC
  constructor <;> intro h <;> rw [h] <;> simp
theorem s_f7same : Sound Try.prog 20 C_f7same :=
  sound_of_eq (env_ok (.nil)) (fun x => T_f7same x.1 x.2.1) r_f7same fun x ok hp => p_f7same x.1 x.2.1 ok.1 ok.2.1
noncomputable def C_awake7 : Contract := { args := [], res := [.bool], pre := fun _ => True, F := fun x => ((true : Bool), ()) }
def T_awake7  : Prop :=
  (True ∧
(True ∧
(True ∧
(True ∧
(((decide (pntE ((Chg.mk (M3.mk 1 1 0 0 1 0 0 0 1) (V3.mk 12 0 25))) ((Pt.mk 48 (V3.mk 1 2 3))) = 0)) = true →
 (((decide (bakE ((Chg.mk (M3.mk 1 1 0 0 1 0 0 0 1) (V3.mk 12 0 25))) = 0)) = true →
  (((decide (idxE ((Chg.mk (M3.mk 1 1 0 0 1 0 0 0 1) (V3.mk 12 0 25))) (V3.mk 1 0 0) = 0)) = true →
   (((decide (metE ((Chg.mk (M3.mk 1 1 0 0 1 0 0 0 1) (V3.mk 12 0 25))) (Met.mk 4 9 1 0 0 0) = 0)) = true →
    ((((decide ((pntP ((Chg.mk (M3.mk 1 1 0 0 1 0 0 0 1) (V3.mk 12 0 25))) ((Pt.mk 48 (V3.mk 1 2 3)))).M = 48)) && ((decide (((pntP ((Chg.mk (M3.mk 1 1 0 0 1 0 0 0 1) (V3.mk 12 0 25))) ((Pt.mk 48 (V3.mk 1 2 3)))).X).x = 27)) && ((decide (((pntP ((Chg.mk (M3.mk 1 1 0 0 1 0 0 0 1) (V3.mk 12 0 25))) ((Pt.mk 48 (V3.mk 1 2 3)))).X).y = 2)) && ((decide (((pntP ((Chg.mk (M3.mk 1 1 0 0 1 0 0 0 1) (V3.mk 12 0 25))) ((Pt.mk 48 (V3.mk 1 2 3)))).X).z = 5)) && true)))) = true →
     ((((decide (((selC (bakE ((Chg.mk (M3.mk 1 1 0 0 1 0 0 0 1) (V3.mk 12 0 25)))) (bakC ((Chg.mk (M3.mk 1 1 0 0 1 0 0 0 1) (V3.mk 12 0 25))))).O).x = 12)) && ((decide (((selC (bakE ((Chg.mk (M3.mk 1 1 0 0 1 0 0 0 1) (V3.mk 12 0 25)))) (bakC ((Chg.mk (M3.mk 1 1 0 0 1 0 0 0 1) (V3.mk 12 0 25))))).O).y = 0)) && ((decide (((selC (bakE ((Chg.mk (M3.mk 1 1 0 0 1 0 0 0 1) (V3.mk 12 0 25)))) (bakC ((Chg.mk (M3.mk 1 1 0 0 1 0 0 0 1) (V3.mk 12 0 25))))).O).z = 23)) && true))) = true →
      ((((decide ((idxV ((Chg.mk (M3.mk 1 1 0 0 1 0 0 0 1) (V3.mk 12 0 25))) (V3.mk 1 0 0)).x = 1)) && ((decide ((idxV ((Chg.mk (M3.mk 1 1 0 0 1 0 0 0 1) (V3.mk 12 0 25))) (V3.mk 1 0 0)).y = (-1))) && ((decide ((idxV ((Chg.mk (M3.mk 1 1 0 0 1 0 0 0 1) (V3.mk 12 0 25))) (V3.mk 1 0 0)).z = 0)) && true))) = true →
       (((decide ((metM ((Chg.mk (M3.mk 1 1 0 0 1 0 0 0 1) (V3.mk 12 0 25))) (Met.mk 4 9 1 0 0 0)).AA = 4)) && ((decide ((metM ((Chg.mk (M3.mk 1 1 0 0 1 0 0 0 1) (V3.mk 12 0 25))) (Met.mk 4 9 1 0 0 0)).BB = 13)) && ((decide ((metM ((Chg.mk (M3.mk 1 1 0 0 1 0 0 0 1) (V3.mk 12 0 25))) (Met.mk 4 9 1 0 0 0)).CC = 1)) && ((decide ((metM ((Chg.mk (M3.mk 1 1 0 0 1 0 0 0 1) (V3.mk 12 0 25))) (Met.mk 4 9 1 0 0 0)).BC = 0)) && ((decide ((metM ((Chg.mk (M3.mk 1 1 0 0 1 0 0 0 1) (V3.mk 12 0 25))) (Met.mk 4 9 1 0 0 0)).AC = 0)) && ((decide ((metM ((Chg.mk (M3.mk 1 1 0 0 1 0 0 0 1) (V3.mk 12 0 25))) (Met.mk 4 9 1 0 0 0)).AB = (-4))) && true)))))), ()) = (true, ())) ∧
      (((decide ((idxV ((Chg.mk (M3.mk 1 1 0 0 1 0 0 0 1) (V3.mk 12 0 25))) (V3.mk 1 0 0)).x = 1)) && ((decide ((idxV ((Chg.mk (M3.mk 1 1 0 0 1 0 0 0 1) (V3.mk 12 0 25))) (V3.mk 1 0 0)).y = (-1))) && ((decide ((idxV ((Chg.mk (M3.mk 1 1 0 0 1 0 0 0 1) (V3.mk 12 0 25))) (V3.mk 1 0 0)).z = 0)) && true))) = false →
      (false, ()) = (true, ())))) ∧
     (((decide (((selC (bakE ((Chg.mk (M3.mk 1 1 0 0 1 0 0 0 1) (V3.mk 12 0 25)))) (bakC ((Chg.mk (M3.mk 1 1 0 0 1 0 0 0 1) (V3.mk 12 0 25))))).O).x = 12)) && ((decide (((selC (bakE ((Chg.mk (M3.mk 1 1 0 0 1 0 0 0 1) (V3.mk 12 0 25)))) (bakC ((Chg.mk (M3.mk 1 1 0 0 1 0 0 0 1) (V3.mk 12 0 25))))).O).y = 0)) && ((decide (((selC (bakE ((Chg.mk (M3.mk 1 1 0 0 1 0 0 0 1) (V3.mk 12 0 25)))) (bakC ((Chg.mk (M3.mk 1 1 0 0 1 0 0 0 1) (V3.mk 12 0 25))))).O).z = 23)) && true))) = false →
     (false, ()) = (true, ())))) ∧
    (((decide ((pntP ((Chg.mk (M3.mk 1 1 0 0 1 0 0 0 1) (V3.mk 12 0 25))) ((Pt.mk 48 (V3.mk 1 2 3)))).M = 48)) && ((decide (((pntP ((Chg.mk (M3.mk 1 1 0 0 1 0 0 0 1) (V3.mk 12 0 25))) ((Pt.mk 48 (V3.mk 1 2 3)))).X).x = 27)) && ((decide (((pntP ((Chg.mk (M3.mk 1 1 0 0 1 0 0 0 1) (V3.mk 12 0 25))) ((Pt.mk 48 (V3.mk 1 2 3)))).X).y = 2)) && ((decide (((pntP ((Chg.mk (M3.mk 1 1 0 0 1 0 0 0 1) (V3.mk 12 0 25))) ((Pt.mk 48 (V3.mk 1 2 3)))).X).z = 5)) && true)))) = false →
    (false, ()) = (true, ())))) ∧
   ((decide (metE ((Chg.mk (M3.mk 1 1 0 0 1 0 0 0 1) (V3.mk 12 0 25))) (Met.mk 4 9 1 0 0 0) = 0)) = false →
   (false, ()) = (true, ())))) ∧
  ((decide (idxE ((Chg.mk (M3.mk 1 1 0 0 1 0 0 0 1) (V3.mk 12 0 25))) (V3.mk 1 0 0) = 0)) = false →
  (false, ()) = (true, ())))) ∧
 ((decide (bakE ((Chg.mk (M3.mk 1 1 0 0 1 0 0 0 1) (V3.mk 12 0 25))) = 0)) = false →
 (false, ()) = (true, ())))) ∧
((decide (pntE ((Chg.mk (M3.mk 1 1 0 0 1 0 0 0 1) (V3.mk 12 0 25))) ((Pt.mk 48 (V3.mk 1 2 3))) = 0)) = false →
(false, ()) = (true, ())))))))
theorem r_awake7 (x : HL C_awake7.args) : runs (env [(15, C_bPoint), (18, C_bBack), (14, C_bIndex), (10, C_bMetric)] []) 400 13 C_awake7 x = T_awake7  := by kernel_rfl
theorem p_awake7   : T_awake7  := by
  unfold T_awake7
  repeat' (first | (with_reducible exact trivial) | (with_reducible apply And.intro) | (intro h; first | (exact absurd h (by decide +kernel)) | skip) | rfl | decide +kernel)
theorem s_awake7 : Sound Try.prog 13 C_awake7 :=
  sound_of_eq (env_ok (.cons s_bPoint (.cons s_bBack (.cons s_bIndex (.cons s_bMetric (.nil)))))) (fun x => T_awake7 ) r_awake7 fun x ok hp => p_awake7  
end Go.Fx
