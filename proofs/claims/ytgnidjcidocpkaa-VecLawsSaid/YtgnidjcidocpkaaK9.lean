/-
  Contracts: VecProducts, VecNumbers.
-/
import Derived.Test.YtgnidjcidocpkaaK8
namespace Go.Fx
open Go Go.Proofs
set_option maxRecDepth 100000
set_option linter.unusedVariables false
noncomputable def C_VecProducts : Contract := { args := [.agg .mat, .agg .mat, .agg .vec], res := [.bool], pre := fun _ => True, F := fun x => ((true : Bool), ()) }
def T_VecProducts (a : M3) (b : M3) (v : V3) : Prop :=
  (True ∧
(((!true) = true →
 (false, ()) = (true, ())) ∧
((!true) = false →
(True ∧
(True ∧
(True ∧
(True ∧
(((!(decide (errM a = 0))) = true →
 (((!(decide (err2 (errM a) (errM b) = 4))) = true →
  (false, ()) = (true, ())) ∧
 ((!(decide (err2 (errM a) (errM b) = 4))) = false →
 (((!((decide ((selM (err2 (errM a) (errM b)) (wM (mulZ a b))).xx = 0)) && ((decide ((selM (err2 (errM a) (errM b)) (wM (mulZ a b))).xy = 0)) && ((decide ((selM (err2 (errM a) (errM b)) (wM (mulZ a b))).xz = 0)) && ((decide ((selM (err2 (errM a) (errM b)) (wM (mulZ a b))).yx = 0)) && ((decide ((selM (err2 (errM a) (errM b)) (wM (mulZ a b))).yy = 0)) && ((decide ((selM (err2 (errM a) (errM b)) (wM (mulZ a b))).yz = 0)) && ((decide ((selM (err2 (errM a) (errM b)) (wM (mulZ a b))).zx = 0)) && ((decide ((selM (err2 (errM a) (errM b)) (wM (mulZ a b))).zy = 0)) && ((decide ((selM (err2 (errM a) (errM b)) (wM (mulZ a b))).zz = 0)) && true)))))))))) = true →
  (false, ()) = (true, ())) ∧
 ((!((decide ((selM (err2 (errM a) (errM b)) (wM (mulZ a b))).xx = 0)) && ((decide ((selM (err2 (errM a) (errM b)) (wM (mulZ a b))).xy = 0)) && ((decide ((selM (err2 (errM a) (errM b)) (wM (mulZ a b))).xz = 0)) && ((decide ((selM (err2 (errM a) (errM b)) (wM (mulZ a b))).yx = 0)) && ((decide ((selM (err2 (errM a) (errM b)) (wM (mulZ a b))).yy = 0)) && ((decide ((selM (err2 (errM a) (errM b)) (wM (mulZ a b))).yz = 0)) && ((decide ((selM (err2 (errM a) (errM b)) (wM (mulZ a b))).zx = 0)) && ((decide ((selM (err2 (errM a) (errM b)) (wM (mulZ a b))).zy = 0)) && ((decide ((selM (err2 (errM a) (errM b)) (wM (mulZ a b))).zz = 0)) && true)))))))))) = false →
 (True ∧
 (((!(decide (errM a = 0))) = true →
  (((decide (err2 (errM a) (errV v) = 4)) = true →
   (((decide (err2 (errM a) (errV v) = 4)) = true →
    ((((decide ((selV (err2 (errM a) (errV v)) (wV (appZ a v))).x = 0)) && ((decide ((selV (err2 (errM a) (errV v)) (wV (appZ a v))).y = 0)) && ((decide ((selV (err2 (errM a) (errV v)) (wV (appZ a v))).z = 0)) && true))) = true →
     (((decide ((selV (err2 (errM a) (errV v)) (wV (appZ (traZ a) v))).x = 0)) && ((decide ((selV (err2 (errM a) (errV v)) (wV (appZ (traZ a) v))).y = 0)) && ((decide ((selV (err2 (errM a) (errV v)) (wV (appZ (traZ a) v))).z = 0)) && true))), ()) = (true, ())) ∧
    (((decide ((selV (err2 (errM a) (errV v)) (wV (appZ a v))).x = 0)) && ((decide ((selV (err2 (errM a) (errV v)) (wV (appZ a v))).y = 0)) && ((decide ((selV (err2 (errM a) (errV v)) (wV (appZ a v))).z = 0)) && true))) = false →
    (false, ()) = (true, ())))) ∧
   ((decide (err2 (errM a) (errV v) = 4)) = false →
   (false, ()) = (true, ())))) ∧
  ((decide (err2 (errM a) (errV v) = 4)) = false →
  (false, ()) = (true, ())))) ∧
 ((!(decide (errM a = 0))) = false →
 (True ∧
 (((!(decide (errV v = 0))) = true →
  (((decide (err2 (errM a) (errV v) = 4)) = true →
   (((decide (err2 (errM a) (errV v) = 4)) = true →
    ((((decide ((selV (err2 (errM a) (errV v)) (wV (appZ a v))).x = 0)) && ((decide ((selV (err2 (errM a) (errV v)) (wV (appZ a v))).y = 0)) && ((decide ((selV (err2 (errM a) (errV v)) (wV (appZ a v))).z = 0)) && true))) = true →
     (((decide ((selV (err2 (errM a) (errV v)) (wV (appZ (traZ a) v))).x = 0)) && ((decide ((selV (err2 (errM a) (errV v)) (wV (appZ (traZ a) v))).y = 0)) && ((decide ((selV (err2 (errM a) (errV v)) (wV (appZ (traZ a) v))).z = 0)) && true))), ()) = (true, ())) ∧
    (((decide ((selV (err2 (errM a) (errV v)) (wV (appZ a v))).x = 0)) && ((decide ((selV (err2 (errM a) (errV v)) (wV (appZ a v))).y = 0)) && ((decide ((selV (err2 (errM a) (errV v)) (wV (appZ a v))).z = 0)) && true))) = false →
    (false, ()) = (true, ())))) ∧
   ((decide (err2 (errM a) (errV v) = 4)) = false →
   (false, ()) = (true, ())))) ∧
  ((decide (err2 (errM a) (errV v) = 4)) = false →
  (false, ()) = (true, ())))) ∧
 ((!(decide (errV v = 0))) = false →
 (((decide (err2 (errM a) (errV v) = 0)) = true →
  (((decide (err2 (errM a) (errV v) = 0)) = true →
   (True ∧
   ((((decide ((selV (err2 (errM a) (errV v)) (wV (appZ a v))).x = (wV (appZ a v)).x)) && ((decide ((selV (err2 (errM a) (errV v)) (wV (appZ a v))).y = (wV (appZ a v)).y)) && ((decide ((selV (err2 (errM a) (errV v)) (wV (appZ a v))).z = (wV (appZ a v)).z)) && true))) = true →
    (True ∧
    (((decide ((selV (err2 (errM a) (errV v)) (wV (appZ (traZ a) v))).x = (wV (appZ (traZ a) v)).x)) && ((decide ((selV (err2 (errM a) (errV v)) (wV (appZ (traZ a) v))).y = (wV (appZ (traZ a) v)).y)) && ((decide ((selV (err2 (errM a) (errV v)) (wV (appZ (traZ a) v))).z = (wV (appZ (traZ a) v)).z)) && true))), ()) = (true, ()))) ∧
   (((decide ((selV (err2 (errM a) (errV v)) (wV (appZ a v))).x = (wV (appZ a v)).x)) && ((decide ((selV (err2 (errM a) (errV v)) (wV (appZ a v))).y = (wV (appZ a v)).y)) && ((decide ((selV (err2 (errM a) (errV v)) (wV (appZ a v))).z = (wV (appZ a v)).z)) && true))) = false →
   (false, ()) = (true, ()))))) ∧
  ((decide (err2 (errM a) (errV v) = 0)) = false →
  (false, ()) = (true, ())))) ∧
 ((decide (err2 (errM a) (errV v) = 0)) = false →
 (false, ()) = (true, ())))))))))))))) ∧
((!(decide (errM a = 0))) = false →
(True ∧
(((!(decide (errM b = 0))) = true →
 (((!(decide (err2 (errM a) (errM b) = 4))) = true →
  (false, ()) = (true, ())) ∧
 ((!(decide (err2 (errM a) (errM b) = 4))) = false →
 (((!((decide ((selM (err2 (errM a) (errM b)) (wM (mulZ a b))).xx = 0)) && ((decide ((selM (err2 (errM a) (errM b)) (wM (mulZ a b))).xy = 0)) && ((decide ((selM (err2 (errM a) (errM b)) (wM (mulZ a b))).xz = 0)) && ((decide ((selM (err2 (errM a) (errM b)) (wM (mulZ a b))).yx = 0)) && ((decide ((selM (err2 (errM a) (errM b)) (wM (mulZ a b))).yy = 0)) && ((decide ((selM (err2 (errM a) (errM b)) (wM (mulZ a b))).yz = 0)) && ((decide ((selM (err2 (errM a) (errM b)) (wM (mulZ a b))).zx = 0)) && ((decide ((selM (err2 (errM a) (errM b)) (wM (mulZ a b))).zy = 0)) && ((decide ((selM (err2 (errM a) (errM b)) (wM (mulZ a b))).zz = 0)) && true)))))))))) = true →
  (false, ()) = (true, ())) ∧
 ((!((decide ((selM (err2 (errM a) (errM b)) (wM (mulZ a b))).xx = 0)) && ((decide ((selM (err2 (errM a) (errM b)) (wM (mulZ a b))).xy = 0)) && ((decide ((selM (err2 (errM a) (errM b)) (wM (mulZ a b))).xz = 0)) && ((decide ((selM (err2 (errM a) (errM b)) (wM (mulZ a b))).yx = 0)) && ((decide ((selM (err2 (errM a) (errM b)) (wM (mulZ a b))).yy = 0)) && ((decide ((selM (err2 (errM a) (errM b)) (wM (mulZ a b))).yz = 0)) && ((decide ((selM (err2 (errM a) (errM b)) (wM (mulZ a b))).zx = 0)) && ((decide ((selM (err2 (errM a) (errM b)) (wM (mulZ a b))).zy = 0)) && ((decide ((selM (err2 (errM a) (errM b)) (wM (mulZ a b))).zz = 0)) && true)))))))))) = false →
 (True ∧
 (((!(decide (errM a = 0))) = true →
  (((decide (err2 (errM a) (errV v) = 4)) = true →
   (((decide (err2 (errM a) (errV v) = 4)) = true →
    ((((decide ((selV (err2 (errM a) (errV v)) (wV (appZ a v))).x = 0)) && ((decide ((selV (err2 (errM a) (errV v)) (wV (appZ a v))).y = 0)) && ((decide ((selV (err2 (errM a) (errV v)) (wV (appZ a v))).z = 0)) && true))) = true →
     (((decide ((selV (err2 (errM a) (errV v)) (wV (appZ (traZ a) v))).x = 0)) && ((decide ((selV (err2 (errM a) (errV v)) (wV (appZ (traZ a) v))).y = 0)) && ((decide ((selV (err2 (errM a) (errV v)) (wV (appZ (traZ a) v))).z = 0)) && true))), ()) = (true, ())) ∧
    (((decide ((selV (err2 (errM a) (errV v)) (wV (appZ a v))).x = 0)) && ((decide ((selV (err2 (errM a) (errV v)) (wV (appZ a v))).y = 0)) && ((decide ((selV (err2 (errM a) (errV v)) (wV (appZ a v))).z = 0)) && true))) = false →
    (false, ()) = (true, ())))) ∧
   ((decide (err2 (errM a) (errV v) = 4)) = false →
   (false, ()) = (true, ())))) ∧
  ((decide (err2 (errM a) (errV v) = 4)) = false →
  (false, ()) = (true, ())))) ∧
 ((!(decide (errM a = 0))) = false →
 (True ∧
 (((!(decide (errV v = 0))) = true →
  (((decide (err2 (errM a) (errV v) = 4)) = true →
   (((decide (err2 (errM a) (errV v) = 4)) = true →
    ((((decide ((selV (err2 (errM a) (errV v)) (wV (appZ a v))).x = 0)) && ((decide ((selV (err2 (errM a) (errV v)) (wV (appZ a v))).y = 0)) && ((decide ((selV (err2 (errM a) (errV v)) (wV (appZ a v))).z = 0)) && true))) = true →
     (((decide ((selV (err2 (errM a) (errV v)) (wV (appZ (traZ a) v))).x = 0)) && ((decide ((selV (err2 (errM a) (errV v)) (wV (appZ (traZ a) v))).y = 0)) && ((decide ((selV (err2 (errM a) (errV v)) (wV (appZ (traZ a) v))).z = 0)) && true))), ()) = (true, ())) ∧
    (((decide ((selV (err2 (errM a) (errV v)) (wV (appZ a v))).x = 0)) && ((decide ((selV (err2 (errM a) (errV v)) (wV (appZ a v))).y = 0)) && ((decide ((selV (err2 (errM a) (errV v)) (wV (appZ a v))).z = 0)) && true))) = false →
    (false, ()) = (true, ())))) ∧
   ((decide (err2 (errM a) (errV v) = 4)) = false →
   (false, ()) = (true, ())))) ∧
  ((decide (err2 (errM a) (errV v) = 4)) = false →
  (false, ()) = (true, ())))) ∧
 ((!(decide (errV v = 0))) = false →
 (((decide (err2 (errM a) (errV v) = 0)) = true →
  (((decide (err2 (errM a) (errV v) = 0)) = true →
   (True ∧
   ((((decide ((selV (err2 (errM a) (errV v)) (wV (appZ a v))).x = (wV (appZ a v)).x)) && ((decide ((selV (err2 (errM a) (errV v)) (wV (appZ a v))).y = (wV (appZ a v)).y)) && ((decide ((selV (err2 (errM a) (errV v)) (wV (appZ a v))).z = (wV (appZ a v)).z)) && true))) = true →
    (True ∧
    (((decide ((selV (err2 (errM a) (errV v)) (wV (appZ (traZ a) v))).x = (wV (appZ (traZ a) v)).x)) && ((decide ((selV (err2 (errM a) (errV v)) (wV (appZ (traZ a) v))).y = (wV (appZ (traZ a) v)).y)) && ((decide ((selV (err2 (errM a) (errV v)) (wV (appZ (traZ a) v))).z = (wV (appZ (traZ a) v)).z)) && true))), ()) = (true, ()))) ∧
   (((decide ((selV (err2 (errM a) (errV v)) (wV (appZ a v))).x = (wV (appZ a v)).x)) && ((decide ((selV (err2 (errM a) (errV v)) (wV (appZ a v))).y = (wV (appZ a v)).y)) && ((decide ((selV (err2 (errM a) (errV v)) (wV (appZ a v))).z = (wV (appZ a v)).z)) && true))) = false →
   (false, ()) = (true, ()))))) ∧
  ((decide (err2 (errM a) (errV v) = 0)) = false →
  (false, ()) = (true, ())))) ∧
 ((decide (err2 (errM a) (errV v) = 0)) = false →
 (false, ()) = (true, ())))))))))))))) ∧
((!(decide (errM b = 0))) = false →
(((!(decide (err2 (errM a) (errM b) = 0))) = true →
 (false, ()) = (true, ())) ∧
((!(decide (err2 (errM a) (errM b) = 0))) = false →
(True ∧
(((!((decide ((selM (err2 (errM a) (errM b)) (wM (mulZ a b))).xx = (wM (mulZ a b)).xx)) && ((decide ((selM (err2 (errM a) (errM b)) (wM (mulZ a b))).xy = (wM (mulZ a b)).xy)) && ((decide ((selM (err2 (errM a) (errM b)) (wM (mulZ a b))).xz = (wM (mulZ a b)).xz)) && ((decide ((selM (err2 (errM a) (errM b)) (wM (mulZ a b))).yx = (wM (mulZ a b)).yx)) && ((decide ((selM (err2 (errM a) (errM b)) (wM (mulZ a b))).yy = (wM (mulZ a b)).yy)) && ((decide ((selM (err2 (errM a) (errM b)) (wM (mulZ a b))).yz = (wM (mulZ a b)).yz)) && ((decide ((selM (err2 (errM a) (errM b)) (wM (mulZ a b))).zx = (wM (mulZ a b)).zx)) && ((decide ((selM (err2 (errM a) (errM b)) (wM (mulZ a b))).zy = (wM (mulZ a b)).zy)) && ((decide ((selM (err2 (errM a) (errM b)) (wM (mulZ a b))).zz = (wM (mulZ a b)).zz)) && true)))))))))) = true →
 (false, ()) = (true, ())) ∧
((!((decide ((selM (err2 (errM a) (errM b)) (wM (mulZ a b))).xx = (wM (mulZ a b)).xx)) && ((decide ((selM (err2 (errM a) (errM b)) (wM (mulZ a b))).xy = (wM (mulZ a b)).xy)) && ((decide ((selM (err2 (errM a) (errM b)) (wM (mulZ a b))).xz = (wM (mulZ a b)).xz)) && ((decide ((selM (err2 (errM a) (errM b)) (wM (mulZ a b))).yx = (wM (mulZ a b)).yx)) && ((decide ((selM (err2 (errM a) (errM b)) (wM (mulZ a b))).yy = (wM (mulZ a b)).yy)) && ((decide ((selM (err2 (errM a) (errM b)) (wM (mulZ a b))).yz = (wM (mulZ a b)).yz)) && ((decide ((selM (err2 (errM a) (errM b)) (wM (mulZ a b))).zx = (wM (mulZ a b)).zx)) && ((decide ((selM (err2 (errM a) (errM b)) (wM (mulZ a b))).zy = (wM (mulZ a b)).zy)) && ((decide ((selM (err2 (errM a) (errM b)) (wM (mulZ a b))).zz = (wM (mulZ a b)).zz)) && true)))))))))) = false →
(True ∧
(((!(decide (errM a = 0))) = true →
 (((decide (err2 (errM a) (errV v) = 4)) = true →
  (((decide (err2 (errM a) (errV v) = 4)) = true →
   ((((decide ((selV (err2 (errM a) (errV v)) (wV (appZ a v))).x = 0)) && ((decide ((selV (err2 (errM a) (errV v)) (wV (appZ a v))).y = 0)) && ((decide ((selV (err2 (errM a) (errV v)) (wV (appZ a v))).z = 0)) && true))) = true →
    (((decide ((selV (err2 (errM a) (errV v)) (wV (appZ (traZ a) v))).x = 0)) && ((decide ((selV (err2 (errM a) (errV v)) (wV (appZ (traZ a) v))).y = 0)) && ((decide ((selV (err2 (errM a) (errV v)) (wV (appZ (traZ a) v))).z = 0)) && true))), ()) = (true, ())) ∧
   (((decide ((selV (err2 (errM a) (errV v)) (wV (appZ a v))).x = 0)) && ((decide ((selV (err2 (errM a) (errV v)) (wV (appZ a v))).y = 0)) && ((decide ((selV (err2 (errM a) (errV v)) (wV (appZ a v))).z = 0)) && true))) = false →
   (false, ()) = (true, ())))) ∧
  ((decide (err2 (errM a) (errV v) = 4)) = false →
  (false, ()) = (true, ())))) ∧
 ((decide (err2 (errM a) (errV v) = 4)) = false →
 (false, ()) = (true, ())))) ∧
((!(decide (errM a = 0))) = false →
(True ∧
(((!(decide (errV v = 0))) = true →
 (((decide (err2 (errM a) (errV v) = 4)) = true →
  (((decide (err2 (errM a) (errV v) = 4)) = true →
   ((((decide ((selV (err2 (errM a) (errV v)) (wV (appZ a v))).x = 0)) && ((decide ((selV (err2 (errM a) (errV v)) (wV (appZ a v))).y = 0)) && ((decide ((selV (err2 (errM a) (errV v)) (wV (appZ a v))).z = 0)) && true))) = true →
    (((decide ((selV (err2 (errM a) (errV v)) (wV (appZ (traZ a) v))).x = 0)) && ((decide ((selV (err2 (errM a) (errV v)) (wV (appZ (traZ a) v))).y = 0)) && ((decide ((selV (err2 (errM a) (errV v)) (wV (appZ (traZ a) v))).z = 0)) && true))), ()) = (true, ())) ∧
   (((decide ((selV (err2 (errM a) (errV v)) (wV (appZ a v))).x = 0)) && ((decide ((selV (err2 (errM a) (errV v)) (wV (appZ a v))).y = 0)) && ((decide ((selV (err2 (errM a) (errV v)) (wV (appZ a v))).z = 0)) && true))) = false →
   (false, ()) = (true, ())))) ∧
  ((decide (err2 (errM a) (errV v) = 4)) = false →
  (false, ()) = (true, ())))) ∧
 ((decide (err2 (errM a) (errV v) = 4)) = false →
 (false, ()) = (true, ())))) ∧
((!(decide (errV v = 0))) = false →
(((decide (err2 (errM a) (errV v) = 0)) = true →
 (((decide (err2 (errM a) (errV v) = 0)) = true →
  (True ∧
  ((((decide ((selV (err2 (errM a) (errV v)) (wV (appZ a v))).x = (wV (appZ a v)).x)) && ((decide ((selV (err2 (errM a) (errV v)) (wV (appZ a v))).y = (wV (appZ a v)).y)) && ((decide ((selV (err2 (errM a) (errV v)) (wV (appZ a v))).z = (wV (appZ a v)).z)) && true))) = true →
   (True ∧
   (((decide ((selV (err2 (errM a) (errV v)) (wV (appZ (traZ a) v))).x = (wV (appZ (traZ a) v)).x)) && ((decide ((selV (err2 (errM a) (errV v)) (wV (appZ (traZ a) v))).y = (wV (appZ (traZ a) v)).y)) && ((decide ((selV (err2 (errM a) (errV v)) (wV (appZ (traZ a) v))).z = (wV (appZ (traZ a) v)).z)) && true))), ()) = (true, ()))) ∧
  (((decide ((selV (err2 (errM a) (errV v)) (wV (appZ a v))).x = (wV (appZ a v)).x)) && ((decide ((selV (err2 (errM a) (errV v)) (wV (appZ a v))).y = (wV (appZ a v)).y)) && ((decide ((selV (err2 (errM a) (errV v)) (wV (appZ a v))).z = (wV (appZ a v)).z)) && true))) = false →
  (false, ()) = (true, ()))))) ∧
 ((decide (err2 (errM a) (errV v) = 0)) = false →
 (false, ()) = (true, ())))) ∧
((decide (err2 (errM a) (errV v) = 0)) = false →
(false, ()) = (true, ()))))))))))))))))))))))))))
theorem r_VecProducts (x : HL C_VecProducts.args) : runs (env [(10, C_awake), (11, C_Mul), (12, C_Apply), (13, C_Left), (14, C_rMat), (15, C_rMul), (16, C_rColumn), (17, C_rApply), (18, C_rLeft)] []) 400 3 C_VecProducts x = T_VecProducts x.1 x.2.1 x.2.2.1 := by kernel_rfl
theorem p_VecProducts (a : M3) (b : M3) (v : V3) (h0 : (Sh.agg .mat).okA a) (h1 : (Sh.agg .mat).okA b) (h2 : (Sh.agg .vec).okA v) : T_VecProducts a b v := by
  rcases errM_cases a with ha | ha <;> rcases errM_cases b with hb | hb <;> rcases errV_cases v with hv | hv <;> simp [T_VecProducts, ha, hb, hv, err2, selM, selV]
theorem s_VecProducts : Sound Try.prog 3 C_VecProducts :=
  sound_of_eq (env_ok (.cons s_awake (.cons s_Mul (.cons s_Apply (.cons s_Left (.cons s_rMat (.cons s_rMul (.cons s_rColumn (.cons s_rApply (.cons s_rLeft (.nil))))))))))) (fun x => T_VecProducts x.1 x.2.1 x.2.2.1) r_VecProducts fun x ok hp => p_VecProducts x.1 x.2.1 x.2.2.1 ok.1 ok.2.1 ok.2.2.1
noncomputable def C_VecNumbers : Contract := { args := [.agg .mat], res := [.bool], pre := fun _ => True, F := fun x => ((true : Bool), ()) }
def T_VecNumbers (m : M3) : Prop :=
  (True ∧
(((!true) = true →
 (false, ()) = (true, ())) ∧
((!true) = false →
(True ∧
(True ∧
(((!((decide ((oneZ 1).xx = (oneZ 1).xx)) && ((decide ((oneZ 1).xy = (oneZ 1).xy)) && ((decide ((oneZ 1).xz = (oneZ 1).xz)) && ((decide ((oneZ 1).yx = (oneZ 1).yx)) && ((decide ((oneZ 1).yy = (oneZ 1).yy)) && ((decide ((oneZ 1).yz = (oneZ 1).yz)) && ((decide ((oneZ 1).zx = (oneZ 1).zx)) && ((decide ((oneZ 1).zy = (oneZ 1).zy)) && ((decide ((oneZ 1).zz = (oneZ 1).zz)) && true)))))))))) = true →
 (false, ()) = (true, ())) ∧
((!((decide ((oneZ 1).xx = (oneZ 1).xx)) && ((decide ((oneZ 1).xy = (oneZ 1).xy)) && ((decide ((oneZ 1).xz = (oneZ 1).xz)) && ((decide ((oneZ 1).yx = (oneZ 1).yx)) && ((decide ((oneZ 1).yy = (oneZ 1).yy)) && ((decide ((oneZ 1).yz = (oneZ 1).yz)) && ((decide ((oneZ 1).zx = (oneZ 1).zx)) && ((decide ((oneZ 1).zy = (oneZ 1).zy)) && ((decide ((oneZ 1).zz = (oneZ 1).zz)) && true)))))))))) = false →
(True ∧
(True ∧
(True ∧
(True ∧
(True ∧
(True ∧
(((!(decide (errM m = errM m))) = true →
 (false, ()) = (true, ())) ∧
((!(decide (errM m = errM m))) = false →
(((!(decide (errM m = errM m))) = true →
 (false, ()) = (true, ())) ∧
((!(decide (errM m = errM m))) = false →
(((!(decide (errM m = errM m))) = true →
 (false, ()) = (true, ())) ∧
((!(decide (errM m = errM m))) = false →
(((!(decide (errM m = errM m))) = true →
 (false, ()) = (true, ())) ∧
((!(decide (errM m = errM m))) = false →
(((!(decide (errM m = errM m))) = true →
 (false, ()) = (true, ())) ∧
((!(decide (errM m = errM m))) = false →
(((!(decide (errM m = 0))) = true →
 ((((decide ((selM (errM m) (traZ m)).xx = 0)) && ((decide ((selM (errM m) (traZ m)).xy = 0)) && ((decide ((selM (errM m) (traZ m)).xz = 0)) && ((decide ((selM (errM m) (traZ m)).yx = 0)) && ((decide ((selM (errM m) (traZ m)).yy = 0)) && ((decide ((selM (errM m) (traZ m)).yz = 0)) && ((decide ((selM (errM m) (traZ m)).zx = 0)) && ((decide ((selM (errM m) (traZ m)).zy = 0)) && ((decide ((selM (errM m) (traZ m)).zz = 0)) && true))))))))) = true →
  (((decide (selI (errM m) (w64 (detZ m)) = 0)) = true →
   (((decide (selI (errM m) (w64 (trcZ m)) = 0)) = true →
    (((decide ((selM (errM m) (wM (adjZ m))).xx = 0)) && ((decide ((selM (errM m) (wM (adjZ m))).xy = 0)) && ((decide ((selM (errM m) (wM (adjZ m))).xz = 0)) && ((decide ((selM (errM m) (wM (adjZ m))).yx = 0)) && ((decide ((selM (errM m) (wM (adjZ m))).yy = 0)) && ((decide ((selM (errM m) (wM (adjZ m))).yz = 0)) && ((decide ((selM (errM m) (wM (adjZ m))).zx = 0)) && ((decide ((selM (errM m) (wM (adjZ m))).zy = 0)) && ((decide ((selM (errM m) (wM (adjZ m))).zz = 0)) && true))))))))), ()) = (true, ())) ∧
   ((decide (selI (errM m) (w64 (trcZ m)) = 0)) = false →
   (false, ()) = (true, ())))) ∧
  ((decide (selI (errM m) (w64 (detZ m)) = 0)) = false →
  (false, ()) = (true, ())))) ∧
 (((decide ((selM (errM m) (traZ m)).xx = 0)) && ((decide ((selM (errM m) (traZ m)).xy = 0)) && ((decide ((selM (errM m) (traZ m)).xz = 0)) && ((decide ((selM (errM m) (traZ m)).yx = 0)) && ((decide ((selM (errM m) (traZ m)).yy = 0)) && ((decide ((selM (errM m) (traZ m)).yz = 0)) && ((decide ((selM (errM m) (traZ m)).zx = 0)) && ((decide ((selM (errM m) (traZ m)).zy = 0)) && ((decide ((selM (errM m) (traZ m)).zz = 0)) && true))))))))) = false →
 (false, ()) = (true, ())))) ∧
((!(decide (errM m = 0))) = false →
(True ∧
((((decide ((selM (errM m) (traZ m)).xx = (traZ m).xx)) && ((decide ((selM (errM m) (traZ m)).xy = (traZ m).xy)) && ((decide ((selM (errM m) (traZ m)).xz = (traZ m).xz)) && ((decide ((selM (errM m) (traZ m)).yx = (traZ m).yx)) && ((decide ((selM (errM m) (traZ m)).yy = (traZ m).yy)) && ((decide ((selM (errM m) (traZ m)).yz = (traZ m).yz)) && ((decide ((selM (errM m) (traZ m)).zx = (traZ m).zx)) && ((decide ((selM (errM m) (traZ m)).zy = (traZ m).zy)) && ((decide ((selM (errM m) (traZ m)).zz = (traZ m).zz)) && true))))))))) = true →
 (True ∧
 (((decide (selI (errM m) (w64 (detZ m)) = w64 (detZ m))) = true →
  (True ∧
  (((decide (selI (errM m) (w64 (trcZ m)) = w64 (trcZ m))) = true →
   (True ∧
   (((decide ((selM (errM m) (wM (adjZ m))).xx = (wM (adjZ m)).xx)) && ((decide ((selM (errM m) (wM (adjZ m))).xy = (wM (adjZ m)).xy)) && ((decide ((selM (errM m) (wM (adjZ m))).xz = (wM (adjZ m)).xz)) && ((decide ((selM (errM m) (wM (adjZ m))).yx = (wM (adjZ m)).yx)) && ((decide ((selM (errM m) (wM (adjZ m))).yy = (wM (adjZ m)).yy)) && ((decide ((selM (errM m) (wM (adjZ m))).yz = (wM (adjZ m)).yz)) && ((decide ((selM (errM m) (wM (adjZ m))).zx = (wM (adjZ m)).zx)) && ((decide ((selM (errM m) (wM (adjZ m))).zy = (wM (adjZ m)).zy)) && ((decide ((selM (errM m) (wM (adjZ m))).zz = (wM (adjZ m)).zz)) && true))))))))), ()) = (true, ()))) ∧
  ((decide (selI (errM m) (w64 (trcZ m)) = w64 (trcZ m))) = false →
  (false, ()) = (true, ()))))) ∧
 ((decide (selI (errM m) (w64 (detZ m)) = w64 (detZ m))) = false →
 (false, ()) = (true, ()))))) ∧
(((decide ((selM (errM m) (traZ m)).xx = (traZ m).xx)) && ((decide ((selM (errM m) (traZ m)).xy = (traZ m).xy)) && ((decide ((selM (errM m) (traZ m)).xz = (traZ m).xz)) && ((decide ((selM (errM m) (traZ m)).yx = (traZ m).yx)) && ((decide ((selM (errM m) (traZ m)).yy = (traZ m).yy)) && ((decide ((selM (errM m) (traZ m)).yz = (traZ m).yz)) && ((decide ((selM (errM m) (traZ m)).zx = (traZ m).zx)) && ((decide ((selM (errM m) (traZ m)).zy = (traZ m).zy)) && ((decide ((selM (errM m) (traZ m)).zz = (traZ m).zz)) && true))))))))) = false →
(false, ()) = (true, ())))))))))))))))))))))))))))))
theorem r_VecNumbers (x : HL C_VecNumbers.args) : runs (env [(10, C_awake), (29, C_Identity), (31, C_One), (24, C_Transpose), (22, C_Det), (23, C_Trace), (32, C_Adjugate), (14, C_rMat), (30, C_check), (33, C_rTranspose), (34, C_rDet), (35, C_rTrace), (36, C_rAdjugate)] []) 400 8 C_VecNumbers x = T_VecNumbers x.1 := by kernel_rfl
theorem p_VecNumbers (m : M3) (h0 : (Sh.agg .mat).okA m) : T_VecNumbers m := by
  rcases errM_cases m with hm | hm <;> simp [T_VecNumbers, hm, selM, selI]
theorem s_VecNumbers : Sound Try.prog 8 C_VecNumbers :=
  sound_of_eq (env_ok (.cons s_awake (.cons s_Identity (.cons s_One (.cons s_Transpose (.cons s_Det (.cons s_Trace (.cons s_Adjugate (.cons s_rMat (.cons s_check (.cons s_rTranspose (.cons s_rDet (.cons s_rTrace (.cons s_rAdjugate (.nil))))))))))))))) (fun x => T_VecNumbers x.1) r_VecNumbers fun x ok hp => p_VecNumbers x.1 ok.1
end Go.Fx
