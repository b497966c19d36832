/-
  Contracts: rOrder.
-/
import Derived.Test.YtgnidjcidocpkaaK9
namespace Go.Fx
open Go Go.Proofs
set_option maxRecDepth 100000
set_option linter.unusedVariables false
noncomputable def C_rOrder : Contract := { args := [.agg .mat], res := [.int .i64], pre := fun _ => True, F := fun x => ((rordZ x.1 : Int), ()) }
def T_rOrder (m : M3) : Prop :=
  (True ∧
(True ∧
(True ∧
(True ∧
(True ∧
((((decide (m.xx = (oneZ 1).xx)) && ((decide (m.xy = (oneZ 1).xy)) && ((decide (m.xz = (oneZ 1).xz)) && ((decide (m.yx = (oneZ 1).yx)) && ((decide (m.yy = (oneZ 1).yy)) && ((decide (m.yz = (oneZ 1).yz)) && ((decide (m.zx = (oneZ 1).zx)) && ((decide (m.zy = (oneZ 1).zy)) && ((decide (m.zz = (oneZ 1).zz)) && true))))))))) = true →
 (1, ()) = (rordZ m, ())) ∧
(((decide (m.xx = (oneZ 1).xx)) && ((decide (m.xy = (oneZ 1).xy)) && ((decide (m.xz = (oneZ 1).xz)) && ((decide (m.yx = (oneZ 1).yx)) && ((decide (m.yy = (oneZ 1).yy)) && ((decide (m.yz = (oneZ 1).yz)) && ((decide (m.zx = (oneZ 1).zx)) && ((decide (m.zy = (oneZ 1).zy)) && ((decide (m.zz = (oneZ 1).zz)) && true))))))))) = false →
(True ∧
(True ∧
((((decide ((wM (mulZ m m)).xx = (oneZ 1).xx)) && ((decide ((wM (mulZ m m)).xy = (oneZ 1).xy)) && ((decide ((wM (mulZ m m)).xz = (oneZ 1).xz)) && ((decide ((wM (mulZ m m)).yx = (oneZ 1).yx)) && ((decide ((wM (mulZ m m)).yy = (oneZ 1).yy)) && ((decide ((wM (mulZ m m)).yz = (oneZ 1).yz)) && ((decide ((wM (mulZ m m)).zx = (oneZ 1).zx)) && ((decide ((wM (mulZ m m)).zy = (oneZ 1).zy)) && ((decide ((wM (mulZ m m)).zz = (oneZ 1).zz)) && true))))))))) = true →
 (2, ()) = (rordZ m, ())) ∧
(((decide ((wM (mulZ m m)).xx = (oneZ 1).xx)) && ((decide ((wM (mulZ m m)).xy = (oneZ 1).xy)) && ((decide ((wM (mulZ m m)).xz = (oneZ 1).xz)) && ((decide ((wM (mulZ m m)).yx = (oneZ 1).yx)) && ((decide ((wM (mulZ m m)).yy = (oneZ 1).yy)) && ((decide ((wM (mulZ m m)).yz = (oneZ 1).yz)) && ((decide ((wM (mulZ m m)).zx = (oneZ 1).zx)) && ((decide ((wM (mulZ m m)).zy = (oneZ 1).zy)) && ((decide ((wM (mulZ m m)).zz = (oneZ 1).zz)) && true))))))))) = false →
(((decide (w64 (trcZ m) = 0)) = true →
 (((decide (w64 (trcZ (wM (adjZ m))) = 0)) = true →
  (((decide (w64 (detZ m) = 1)) = true →
   (3, ()) = (rordZ m, ())) ∧
  ((decide (w64 (detZ m) = 1)) = false →
  (((decide (w64 (trcZ m) = 1)) = true →
   (((decide (w64 (trcZ (wM (adjZ m))) = 1)) = true →
    (((decide (w64 (detZ m) = 1)) = true →
     (4, ()) = (rordZ m, ())) ∧
    ((decide (w64 (detZ m) = 1)) = false →
    (((decide (w64 (trcZ m) = (-1))) = true →
     (((decide (w64 (trcZ (wM (adjZ m))) = 1)) = true →
      (((decide (w64 (detZ m) = (-1))) = true →
       (4, ()) = (rordZ m, ())) ∧
      ((decide (w64 (detZ m) = (-1))) = false →
      (((decide (w64 (trcZ m) = 0)) = true →
       (((decide (w64 (trcZ (wM (adjZ m))) = 0)) = true →
        (((decide (w64 (detZ m) = (-1))) = true →
         (6, ()) = (rordZ m, ())) ∧
        ((decide (w64 (detZ m) = (-1))) = false →
        (((decide (w64 (trcZ m) = 2)) = true →
         (((decide (w64 (trcZ (wM (adjZ m))) = 2)) = true →
          (((decide (w64 (detZ m) = 1)) = true →
           (6, ()) = (rordZ m, ())) ∧
          ((decide (w64 (detZ m) = 1)) = false →
          (((decide (w64 (trcZ m) = (-2))) = true →
           (((decide (w64 (trcZ (wM (adjZ m))) = 2)) = true →
            (((decide (w64 (detZ m) = (-1))) = true →
             (6, ()) = (rordZ m, ())) ∧
            ((decide (w64 (detZ m) = (-1))) = false →
            (0, ()) = (rordZ m, ())))) ∧
           ((decide (w64 (trcZ (wM (adjZ m))) = 2)) = false →
           (0, ()) = (rordZ m, ())))) ∧
          ((decide (w64 (trcZ m) = (-2))) = false →
          (0, ()) = (rordZ m, ())))))) ∧
         ((decide (w64 (trcZ (wM (adjZ m))) = 2)) = false →
         (((decide (w64 (trcZ m) = (-2))) = true →
          (((decide (w64 (trcZ (wM (adjZ m))) = 2)) = true →
           (((decide (w64 (detZ m) = (-1))) = true →
            (6, ()) = (rordZ m, ())) ∧
           ((decide (w64 (detZ m) = (-1))) = false →
           (0, ()) = (rordZ m, ())))) ∧
          ((decide (w64 (trcZ (wM (adjZ m))) = 2)) = false →
          (0, ()) = (rordZ m, ())))) ∧
         ((decide (w64 (trcZ m) = (-2))) = false →
         (0, ()) = (rordZ m, ())))))) ∧
        ((decide (w64 (trcZ m) = 2)) = false →
        (((decide (w64 (trcZ m) = (-2))) = true →
         (((decide (w64 (trcZ (wM (adjZ m))) = 2)) = true →
          (((decide (w64 (detZ m) = (-1))) = true →
           (6, ()) = (rordZ m, ())) ∧
          ((decide (w64 (detZ m) = (-1))) = false →
          (0, ()) = (rordZ m, ())))) ∧
         ((decide (w64 (trcZ (wM (adjZ m))) = 2)) = false →
         (0, ()) = (rordZ m, ())))) ∧
        ((decide (w64 (trcZ m) = (-2))) = false →
        (0, ()) = (rordZ m, ())))))))) ∧
       ((decide (w64 (trcZ (wM (adjZ m))) = 0)) = false →
       (((decide (w64 (trcZ m) = 2)) = true →
        (((decide (w64 (trcZ (wM (adjZ m))) = 2)) = true →
         (((decide (w64 (detZ m) = 1)) = true →
          (6, ()) = (rordZ m, ())) ∧
         ((decide (w64 (detZ m) = 1)) = false →
         (((decide (w64 (trcZ m) = (-2))) = true →
          (((decide (w64 (trcZ (wM (adjZ m))) = 2)) = true →
           (((decide (w64 (detZ m) = (-1))) = true →
            (6, ()) = (rordZ m, ())) ∧
           ((decide (w64 (detZ m) = (-1))) = false →
           (0, ()) = (rordZ m, ())))) ∧
          ((decide (w64 (trcZ (wM (adjZ m))) = 2)) = false →
          (0, ()) = (rordZ m, ())))) ∧
         ((decide (w64 (trcZ m) = (-2))) = false →
         (0, ()) = (rordZ m, ())))))) ∧
        ((decide (w64 (trcZ (wM (adjZ m))) = 2)) = false →
        (((decide (w64 (trcZ m) = (-2))) = true →
         (((decide (w64 (trcZ (wM (adjZ m))) = 2)) = true →
          (((decide (w64 (detZ m) = (-1))) = true →
           (6, ()) = (rordZ m, ())) ∧
          ((decide (w64 (detZ m) = (-1))) = false →
          (0, ()) = (rordZ m, ())))) ∧
         ((decide (w64 (trcZ (wM (adjZ m))) = 2)) = false →
         (0, ()) = (rordZ m, ())))) ∧
        ((decide (w64 (trcZ m) = (-2))) = false →
        (0, ()) = (rordZ m, ())))))) ∧
       ((decide (w64 (trcZ m) = 2)) = false →
       (((decide (w64 (trcZ m) = (-2))) = true →
        (((decide (w64 (trcZ (wM (adjZ m))) = 2)) = true →
         (((decide (w64 (detZ m) = (-1))) = true →
          (6, ()) = (rordZ m, ())) ∧
         ((decide (w64 (detZ m) = (-1))) = false →
         (0, ()) = (rordZ m, ())))) ∧
        ((decide (w64 (trcZ (wM (adjZ m))) = 2)) = false →
        (0, ()) = (rordZ m, ())))) ∧
       ((decide (w64 (trcZ m) = (-2))) = false →
       (0, ()) = (rordZ m, ())))))))) ∧
      ((decide (w64 (trcZ m) = 0)) = false →
      (((decide (w64 (trcZ m) = 2)) = true →
       (((decide (w64 (trcZ (wM (adjZ m))) = 2)) = true →
        (((decide (w64 (detZ m) = 1)) = true →
         (6, ()) = (rordZ m, ())) ∧
        ((decide (w64 (detZ m) = 1)) = false →
        (((decide (w64 (trcZ m) = (-2))) = true →
         (((decide (w64 (trcZ (wM (adjZ m))) = 2)) = true →
          (((decide (w64 (detZ m) = (-1))) = true →
           (6, ()) = (rordZ m, ())) ∧
          ((decide (w64 (detZ m) = (-1))) = false →
          (0, ()) = (rordZ m, ())))) ∧
         ((decide (w64 (trcZ (wM (adjZ m))) = 2)) = false →
         (0, ()) = (rordZ m, ())))) ∧
        ((decide (w64 (trcZ m) = (-2))) = false →
        (0, ()) = (rordZ m, ())))))) ∧
       ((decide (w64 (trcZ (wM (adjZ m))) = 2)) = false →
       (((decide (w64 (trcZ m) = (-2))) = true →
        (((decide (w64 (trcZ (wM (adjZ m))) = 2)) = true →
         (((decide (w64 (detZ m) = (-1))) = true →
          (6, ()) = (rordZ m, ())) ∧
         ((decide (w64 (detZ m) = (-1))) = false →
         (0, ()) = (rordZ m, ())))) ∧
        ((decide (w64 (trcZ (wM (adjZ m))) = 2)) = false →
        (0, ()) = (rordZ m, ())))) ∧
       ((decide (w64 (trcZ m) = (-2))) = false →
       (0, ()) = (rordZ m, ())))))) ∧
      ((decide (w64 (trcZ m) = 2)) = false →
      (((decide (w64 (trcZ m) = (-2))) = true →
       (((decide (w64 (trcZ (wM (adjZ m))) = 2)) = true →
        (((decide (w64 (detZ m) = (-1))) = true →
         (6, ()) = (rordZ m, ())) ∧
        ((decide (w64 (detZ m) = (-1))) = false →
        (0, ()) = (rordZ m, ())))) ∧
       ((decide (w64 (trcZ (wM (adjZ m))) = 2)) = false →
       (0, ()) = (rordZ m, ())))) ∧
      ((decide (w64 (trcZ m) = (-2))) = false →
      (0, ()) = (rordZ m, ())))))))))) ∧
     ((decide (w64 (trcZ (wM (adjZ m))) = 1)) = false →
     (((decide (w64 (trcZ m) = 0)) = true →
      (((decide (w64 (trcZ (wM (adjZ m))) = 0)) = true →
       (((decide (w64 (detZ m) = (-1))) = true →
        (6, ()) = (rordZ m, ())) ∧
       ((decide (w64 (detZ m) = (-1))) = false →
       (((decide (w64 (trcZ m) = 2)) = true →
        (((decide (w64 (trcZ (wM (adjZ m))) = 2)) = true →
         (((decide (w64 (detZ m) = 1)) = true →
          (6, ()) = (rordZ m, ())) ∧
         ((decide (w64 (detZ m) = 1)) = false →
         (((decide (w64 (trcZ m) = (-2))) = true →
          (((decide (w64 (trcZ (wM (adjZ m))) = 2)) = true →
           (((decide (w64 (detZ m) = (-1))) = true →
            (6, ()) = (rordZ m, ())) ∧
           ((decide (w64 (detZ m) = (-1))) = false →
           (0, ()) = (rordZ m, ())))) ∧
          ((decide (w64 (trcZ (wM (adjZ m))) = 2)) = false →
          (0, ()) = (rordZ m, ())))) ∧
         ((decide (w64 (trcZ m) = (-2))) = false →
         (0, ()) = (rordZ m, ())))))) ∧
        ((decide (w64 (trcZ (wM (adjZ m))) = 2)) = false →
        (((decide (w64 (trcZ m) = (-2))) = true →
         (((decide (w64 (trcZ (wM (adjZ m))) = 2)) = true →
          (((decide (w64 (detZ m) = (-1))) = true →
           (6, ()) = (rordZ m, ())) ∧
          ((decide (w64 (detZ m) = (-1))) = false →
          (0, ()) = (rordZ m, ())))) ∧
         ((decide (w64 (trcZ (wM (adjZ m))) = 2)) = false →
         (0, ()) = (rordZ m, ())))) ∧
        ((decide (w64 (trcZ m) = (-2))) = false →
        (0, ()) = (rordZ m, ())))))) ∧
       ((decide (w64 (trcZ m) = 2)) = false →
       (((decide (w64 (trcZ m) = (-2))) = true →
        (((decide (w64 (trcZ (wM (adjZ m))) = 2)) = true →
         (((decide (w64 (detZ m) = (-1))) = true →
          (6, ()) = (rordZ m, ())) ∧
         ((decide (w64 (detZ m) = (-1))) = false →
         (0, ()) = (rordZ m, ())))) ∧
        ((decide (w64 (trcZ (wM (adjZ m))) = 2)) = false →
        (0, ()) = (rordZ m, ())))) ∧
       ((decide (w64 (trcZ m) = (-2))) = false →
       (0, ()) = (rordZ m, ())))))))) ∧
      ((decide (w64 (trcZ (wM (adjZ m))) = 0)) = false →
      (((decide (w64 (trcZ m) = 2)) = true →
       (((decide (w64 (trcZ (wM (adjZ m))) = 2)) = true →
        (((decide (w64 (detZ m) = 1)) = true →
         (6, ()) = (rordZ m, ())) ∧
        ((decide (w64 (detZ m) = 1)) = false →
        (((decide (w64 (trcZ m) = (-2))) = true →
         (((decide (w64 (trcZ (wM (adjZ m))) = 2)) = true →
          (((decide (w64 (detZ m) = (-1))) = true →
           (6, ()) = (rordZ m, ())) ∧
          ((decide (w64 (detZ m) = (-1))) = false →
          (0, ()) = (rordZ m, ())))) ∧
         ((decide (w64 (trcZ (wM (adjZ m))) = 2)) = false →
         (0, ()) = (rordZ m, ())))) ∧
        ((decide (w64 (trcZ m) = (-2))) = false →
        (0, ()) = (rordZ m, ())))))) ∧
       ((decide (w64 (trcZ (wM (adjZ m))) = 2)) = false →
       (((decide (w64 (trcZ m) = (-2))) = true →
        (((decide (w64 (trcZ (wM (adjZ m))) = 2)) = true →
         (((decide (w64 (detZ m) = (-1))) = true →
          (6, ()) = (rordZ m, ())) ∧
         ((decide (w64 (detZ m) = (-1))) = false →
         (0, ()) = (rordZ m, ())))) ∧
        ((decide (w64 (trcZ (wM (adjZ m))) = 2)) = false →
        (0, ()) = (rordZ m, ())))) ∧
       ((decide (w64 (trcZ m) = (-2))) = false →
       (0, ()) = (rordZ m, ())))))) ∧
      ((decide (w64 (trcZ m) = 2)) = false →
      (((decide (w64 (trcZ m) = (-2))) = true →
       (((decide (w64 (trcZ (wM (adjZ m))) = 2)) = true →
        (((decide (w64 (detZ m) = (-1))) = true →
         (6, ()) = (rordZ m, ())) ∧
        ((decide (w64 (detZ m) = (-1))) = false →
        (0, ()) = (rordZ m, ())))) ∧
       ((decide (w64 (trcZ (wM (adjZ m))) = 2)) = false →
       (0, ()) = (rordZ m, ())))) ∧
      ((decide (w64 (trcZ m) = (-2))) = false →
      (0, ()) = (rordZ m, ())))))))) ∧
     ((decide (w64 (trcZ m) = 0)) = false →
     (((decide (w64 (trcZ m) = 2)) = true →
      (((decide (w64 (trcZ (wM (adjZ m))) = 2)) = true →
       (((decide (w64 (detZ m) = 1)) = true →
        (6, ()) = (rordZ m, ())) ∧
       ((decide (w64 (detZ m) = 1)) = false →
       (((decide (w64 (trcZ m) = (-2))) = true →
        (((decide (w64 (trcZ (wM (adjZ m))) = 2)) = true →
         (((decide (w64 (detZ m) = (-1))) = true →
          (6, ()) = (rordZ m, ())) ∧
         ((decide (w64 (detZ m) = (-1))) = false →
         (0, ()) = (rordZ m, ())))) ∧
        ((decide (w64 (trcZ (wM (adjZ m))) = 2)) = false →
        (0, ()) = (rordZ m, ())))) ∧
       ((decide (w64 (trcZ m) = (-2))) = false →
       (0, ()) = (rordZ m, ())))))) ∧
      ((decide (w64 (trcZ (wM (adjZ m))) = 2)) = false →
      (((decide (w64 (trcZ m) = (-2))) = true →
       (((decide (w64 (trcZ (wM (adjZ m))) = 2)) = true →
        (((decide (w64 (detZ m) = (-1))) = true →
         (6, ()) = (rordZ m, ())) ∧
        ((decide (w64 (detZ m) = (-1))) = false →
        (0, ()) = (rordZ m, ())))) ∧
       ((decide (w64 (trcZ (wM (adjZ m))) = 2)) = false →
       (0, ()) = (rordZ m, ())))) ∧
      ((decide (w64 (trcZ m) = (-2))) = false →
      (0, ()) = (rordZ m, ())))))) ∧
     ((decide (w64 (trcZ m) = 2)) = false →
     (((decide (w64 (trcZ m) = (-2))) = true →
      (((decide (w64 (trcZ (wM (adjZ m))) = 2)) = true →
       (((decide (w64 (detZ m) = (-1))) = true →
        (6, ()) = (rordZ m, ())) ∧
       ((decide (w64 (detZ m) = (-1))) = false →
       (0, ()) = (rordZ m, ())))) ∧
      ((decide (w64 (trcZ (wM (adjZ m))) = 2)) = false →
      (0, ()) = (rordZ m, ())))) ∧
     ((decide (w64 (trcZ m) = (-2))) = false →
     (0, ()) = (rordZ m, ())))))))))) ∧
    ((decide (w64 (trcZ m) = (-1))) = false →
    (((decide (w64 (trcZ m) = 0)) = true →
     (((decide (w64 (trcZ (wM (adjZ m))) = 0)) = true →
      (((decide (w64 (detZ m) = (-1))) = true →
       (6, ()) = (rordZ m, ())) ∧
      ((decide (w64 (detZ m) = (-1))) = false →
      (((decide (w64 (trcZ m) = 2)) = true →
       (((decide (w64 (trcZ (wM (adjZ m))) = 2)) = true →
        (((decide (w64 (detZ m) = 1)) = true →
         (6, ()) = (rordZ m, ())) ∧
        ((decide (w64 (detZ m) = 1)) = false →
        (((decide (w64 (trcZ m) = (-2))) = true →
         (((decide (w64 (trcZ (wM (adjZ m))) = 2)) = true →
          (((decide (w64 (detZ m) = (-1))) = true →
           (6, ()) = (rordZ m, ())) ∧
          ((decide (w64 (detZ m) = (-1))) = false →
          (0, ()) = (rordZ m, ())))) ∧
         ((decide (w64 (trcZ (wM (adjZ m))) = 2)) = false →
         (0, ()) = (rordZ m, ())))) ∧
        ((decide (w64 (trcZ m) = (-2))) = false →
        (0, ()) = (rordZ m, ())))))) ∧
       ((decide (w64 (trcZ (wM (adjZ m))) = 2)) = false →
       (((decide (w64 (trcZ m) = (-2))) = true →
        (((decide (w64 (trcZ (wM (adjZ m))) = 2)) = true →
         (((decide (w64 (detZ m) = (-1))) = true →
          (6, ()) = (rordZ m, ())) ∧
         ((decide (w64 (detZ m) = (-1))) = false →
         (0, ()) = (rordZ m, ())))) ∧
        ((decide (w64 (trcZ (wM (adjZ m))) = 2)) = false →
        (0, ()) = (rordZ m, ())))) ∧
       ((decide (w64 (trcZ m) = (-2))) = false →
       (0, ()) = (rordZ m, ())))))) ∧
      ((decide (w64 (trcZ m) = 2)) = false →
      (((decide (w64 (trcZ m) = (-2))) = true →
       (((decide (w64 (trcZ (wM (adjZ m))) = 2)) = true →
        (((decide (w64 (detZ m) = (-1))) = true →
         (6, ()) = (rordZ m, ())) ∧
        ((decide (w64 (detZ m) = (-1))) = false →
        (0, ()) = (rordZ m, ())))) ∧
       ((decide (w64 (trcZ (wM (adjZ m))) = 2)) = false →
       (0, ()) = (rordZ m, ())))) ∧
      ((decide (w64 (trcZ m) = (-2))) = false →
      (0, ()) = (rordZ m, ())))))))) ∧
     ((decide (w64 (trcZ (wM (adjZ m))) = 0)) = false →
     (((decide (w64 (trcZ m) = 2)) = true →
      (((decide (w64 (trcZ (wM (adjZ m))) = 2)) = true →
       (((decide (w64 (detZ m) = 1)) = true →
        (6, ()) = (rordZ m, ())) ∧
       ((decide (w64 (detZ m) = 1)) = false →
       (((decide (w64 (trcZ m) = (-2))) = true →
        (((decide (w64 (trcZ (wM (adjZ m))) = 2)) = true →
         (((decide (w64 (detZ m) = (-1))) = true →
          (6, ()) = (rordZ m, ())) ∧
         ((decide (w64 (detZ m) = (-1))) = false →
         (0, ()) = (rordZ m, ())))) ∧
        ((decide (w64 (trcZ (wM (adjZ m))) = 2)) = false →
        (0, ()) = (rordZ m, ())))) ∧
       ((decide (w64 (trcZ m) = (-2))) = false →
       (0, ()) = (rordZ m, ())))))) ∧
      ((decide (w64 (trcZ (wM (adjZ m))) = 2)) = false →
      (((decide (w64 (trcZ m) = (-2))) = true →
       (((decide (w64 (trcZ (wM (adjZ m))) = 2)) = true →
        (((decide (w64 (detZ m) = (-1))) = true →
         (6, ()) = (rordZ m, ())) ∧
        ((decide (w64 (detZ m) = (-1))) = false →
        (0, ()) = (rordZ m, ())))) ∧
       ((decide (w64 (trcZ (wM (adjZ m))) = 2)) = false →
       (0, ()) = (rordZ m, ())))) ∧
      ((decide (w64 (trcZ m) = (-2))) = false →
      (0, ()) = (rordZ m, ())))))) ∧
     ((decide (w64 (trcZ m) = 2)) = false →
     (((decide (w64 (trcZ m) = (-2))) = true →
      (((decide (w64 (trcZ (wM (adjZ m))) = 2)) = true →
       (((decide (w64 (detZ m) = (-1))) = true →
        (6, ()) = (rordZ m, ())) ∧
       ((decide (w64 (detZ m) = (-1))) = false →
       (0, ()) = (rordZ m, ())))) ∧
      ((decide (w64 (trcZ (wM (adjZ m))) = 2)) = false →
      (0, ()) = (rordZ m, ())))) ∧
     ((decide (w64 (trcZ m) = (-2))) = false →
     (0, ()) = (rordZ m, ())))))))) ∧
    ((decide (w64 (trcZ m) = 0)) = false →
    (((decide (w64 (trcZ m) = 2)) = true →
     (((decide (w64 (trcZ (wM (adjZ m))) = 2)) = true →
      (((decide (w64 (detZ m) = 1)) = true →
       (6, ()) = (rordZ m, ())) ∧
      ((decide (w64 (detZ m) = 1)) = false →
      (((decide (w64 (trcZ m) = (-2))) = true →
       (((decide (w64 (trcZ (wM (adjZ m))) = 2)) = true →
        (((decide (w64 (detZ m) = (-1))) = true →
         (6, ()) = (rordZ m, ())) ∧
        ((decide (w64 (detZ m) = (-1))) = false →
        (0, ()) = (rordZ m, ())))) ∧
       ((decide (w64 (trcZ (wM (adjZ m))) = 2)) = false →
       (0, ()) = (rordZ m, ())))) ∧
      ((decide (w64 (trcZ m) = (-2))) = false →
      (0, ()) = (rordZ m, ())))))) ∧
     ((decide (w64 (trcZ (wM (adjZ m))) = 2)) = false →
     (((decide (w64 (trcZ m) = (-2))) = true →
      (((decide (w64 (trcZ (wM (adjZ m))) = 2)) = true →
       (((decide (w64 (detZ m) = (-1))) = true →
        (6, ()) = (rordZ m, ())) ∧
       ((decide (w64 (detZ m) = (-1))) = false →
       (0, ()) = (rordZ m, ())))) ∧
      ((decide (w64 (trcZ (wM (adjZ m))) = 2)) = false →
      (0, ()) = (rordZ m, ())))) ∧
     ((decide (w64 (trcZ m) = (-2))) = false →
     (0, ()) = (rordZ m, ())))))) ∧
    ((decide (w64 (trcZ m) = 2)) = false →
    (((decide (w64 (trcZ m) = (-2))) = true →
     (((decide (w64 (trcZ (wM (adjZ m))) = 2)) = true →
      (((decide (w64 (detZ m) = (-1))) = true →
       (6, ()) = (rordZ m, ())) ∧
      ((decide (w64 (detZ m) = (-1))) = false →
      (0, ()) = (rordZ m, ())))) ∧
     ((decide (w64 (trcZ (wM (adjZ m))) = 2)) = false →
     (0, ()) = (rordZ m, ())))) ∧
    ((decide (w64 (trcZ m) = (-2))) = false →
    (0, ()) = (rordZ m, ())))))))))))) ∧
   ((decide (w64 (trcZ (wM (adjZ m))) = 1)) = false →
   (((decide (w64 (trcZ m) = (-1))) = true →
    (((decide (w64 (trcZ (wM (adjZ m))) = 1)) = true →
     (((decide (w64 (detZ m) = (-1))) = true →
      (4, ()) = (rordZ m, ())) ∧
     ((decide (w64 (detZ m) = (-1))) = false →
     (((decide (w64 (trcZ m) = 0)) = true →
      (((decide (w64 (trcZ (wM (adjZ m))) = 0)) = true →
       (((decide (w64 (detZ m) = (-1))) = true →
        (6, ()) = (rordZ m, ())) ∧
       ((decide (w64 (detZ m) = (-1))) = false →
       (((decide (w64 (trcZ m) = 2)) = true →
        (((decide (w64 (trcZ (wM (adjZ m))) = 2)) = true →
         (((decide (w64 (detZ m) = 1)) = true →
          (6, ()) = (rordZ m, ())) ∧
         ((decide (w64 (detZ m) = 1)) = false →
         (((decide (w64 (trcZ m) = (-2))) = true →
          (((decide (w64 (trcZ (wM (adjZ m))) = 2)) = true →
           (((decide (w64 (detZ m) = (-1))) = true →
            (6, ()) = (rordZ m, ())) ∧
           ((decide (w64 (detZ m) = (-1))) = false →
           (0, ()) = (rordZ m, ())))) ∧
          ((decide (w64 (trcZ (wM (adjZ m))) = 2)) = false →
          (0, ()) = (rordZ m, ())))) ∧
         ((decide (w64 (trcZ m) = (-2))) = false →
         (0, ()) = (rordZ m, ())))))) ∧
        ((decide (w64 (trcZ (wM (adjZ m))) = 2)) = false →
        (((decide (w64 (trcZ m) = (-2))) = true →
         (((decide (w64 (trcZ (wM (adjZ m))) = 2)) = true →
          (((decide (w64 (detZ m) = (-1))) = true →
           (6, ()) = (rordZ m, ())) ∧
          ((decide (w64 (detZ m) = (-1))) = false →
          (0, ()) = (rordZ m, ())))) ∧
         ((decide (w64 (trcZ (wM (adjZ m))) = 2)) = false →
         (0, ()) = (rordZ m, ())))) ∧
        ((decide (w64 (trcZ m) = (-2))) = false →
        (0, ()) = (rordZ m, ())))))) ∧
       ((decide (w64 (trcZ m) = 2)) = false →
       (((decide (w64 (trcZ m) = (-2))) = true →
        (((decide (w64 (trcZ (wM (adjZ m))) = 2)) = true →
         (((decide (w64 (detZ m) = (-1))) = true →
          (6, ()) = (rordZ m, ())) ∧
         ((decide (w64 (detZ m) = (-1))) = false →
         (0, ()) = (rordZ m, ())))) ∧
        ((decide (w64 (trcZ (wM (adjZ m))) = 2)) = false →
        (0, ()) = (rordZ m, ())))) ∧
       ((decide (w64 (trcZ m) = (-2))) = false →
       (0, ()) = (rordZ m, ())))))))) ∧
      ((decide (w64 (trcZ (wM (adjZ m))) = 0)) = false →
      (((decide (w64 (trcZ m) = 2)) = true →
       (((decide (w64 (trcZ (wM (adjZ m))) = 2)) = true →
        (((decide (w64 (detZ m) = 1)) = true →
         (6, ()) = (rordZ m, ())) ∧
        ((decide (w64 (detZ m) = 1)) = false →
        (((decide (w64 (trcZ m) = (-2))) = true →
         (((decide (w64 (trcZ (wM (adjZ m))) = 2)) = true →
          (((decide (w64 (detZ m) = (-1))) = true →
           (6, ()) = (rordZ m, ())) ∧
          ((decide (w64 (detZ m) = (-1))) = false →
          (0, ()) = (rordZ m, ())))) ∧
         ((decide (w64 (trcZ (wM (adjZ m))) = 2)) = false →
         (0, ()) = (rordZ m, ())))) ∧
        ((decide (w64 (trcZ m) = (-2))) = false →
        (0, ()) = (rordZ m, ())))))) ∧
       ((decide (w64 (trcZ (wM (adjZ m))) = 2)) = false →
       (((decide (w64 (trcZ m) = (-2))) = true →
        (((decide (w64 (trcZ (wM (adjZ m))) = 2)) = true →
         (((decide (w64 (detZ m) = (-1))) = true →
          (6, ()) = (rordZ m, ())) ∧
         ((decide (w64 (detZ m) = (-1))) = false →
         (0, ()) = (rordZ m, ())))) ∧
        ((decide (w64 (trcZ (wM (adjZ m))) = 2)) = false →
        (0, ()) = (rordZ m, ())))) ∧
       ((decide (w64 (trcZ m) = (-2))) = false →
       (0, ()) = (rordZ m, ())))))) ∧
      ((decide (w64 (trcZ m) = 2)) = false →
      (((decide (w64 (trcZ m) = (-2))) = true →
       (((decide (w64 (trcZ (wM (adjZ m))) = 2)) = true →
        (((decide (w64 (detZ m) = (-1))) = true →
         (6, ()) = (rordZ m, ())) ∧
        ((decide (w64 (detZ m) = (-1))) = false →
        (0, ()) = (rordZ m, ())))) ∧
       ((decide (w64 (trcZ (wM (adjZ m))) = 2)) = false →
       (0, ()) = (rordZ m, ())))) ∧
      ((decide (w64 (trcZ m) = (-2))) = false →
      (0, ()) = (rordZ m, ())))))))) ∧
     ((decide (w64 (trcZ m) = 0)) = false →
     (((decide (w64 (trcZ m) = 2)) = true →
      (((decide (w64 (trcZ (wM (adjZ m))) = 2)) = true →
       (((decide (w64 (detZ m) = 1)) = true →
        (6, ()) = (rordZ m, ())) ∧
       ((decide (w64 (detZ m) = 1)) = false →
       (((decide (w64 (trcZ m) = (-2))) = true →
        (((decide (w64 (trcZ (wM (adjZ m))) = 2)) = true →
         (((decide (w64 (detZ m) = (-1))) = true →
          (6, ()) = (rordZ m, ())) ∧
         ((decide (w64 (detZ m) = (-1))) = false →
         (0, ()) = (rordZ m, ())))) ∧
        ((decide (w64 (trcZ (wM (adjZ m))) = 2)) = false →
        (0, ()) = (rordZ m, ())))) ∧
       ((decide (w64 (trcZ m) = (-2))) = false →
       (0, ()) = (rordZ m, ())))))) ∧
      ((decide (w64 (trcZ (wM (adjZ m))) = 2)) = false →
      (((decide (w64 (trcZ m) = (-2))) = true →
       (((decide (w64 (trcZ (wM (adjZ m))) = 2)) = true →
        (((decide (w64 (detZ m) = (-1))) = true →
         (6, ()) = (rordZ m, ())) ∧
        ((decide (w64 (detZ m) = (-1))) = false →
        (0, ()) = (rordZ m, ())))) ∧
       ((decide (w64 (trcZ (wM (adjZ m))) = 2)) = false →
       (0, ()) = (rordZ m, ())))) ∧
      ((decide (w64 (trcZ m) = (-2))) = false →
      (0, ()) = (rordZ m, ())))))) ∧
     ((decide (w64 (trcZ m) = 2)) = false →
     (((decide (w64 (trcZ m) = (-2))) = true →
      (((decide (w64 (trcZ (wM (adjZ m))) = 2)) = true →
       (((decide (w64 (detZ m) = (-1))) = true →
        (6, ()) = (rordZ m, ())) ∧
       ((decide (w64 (detZ m) = (-1))) = false →
       (0, ()) = (rordZ m, ())))) ∧
      ((decide (w64 (trcZ (wM (adjZ m))) = 2)) = false →
      (0, ()) = (rordZ m, ())))) ∧
     ((decide (w64 (trcZ m) = (-2))) = false →
     (0, ()) = (rordZ m, ())))))))))) ∧
    ((decide (w64 (trcZ (wM (adjZ m))) = 1)) = false →
    (((decide (w64 (trcZ m) = 0)) = true →
     (((decide (w64 (trcZ (wM (adjZ m))) = 0)) = true →
      (((decide (w64 (detZ m) = (-1))) = true →
       (6, ()) = (rordZ m, ())) ∧
      ((decide (w64 (detZ m) = (-1))) = false →
      (((decide (w64 (trcZ m) = 2)) = true →
       (((decide (w64 (trcZ (wM (adjZ m))) = 2)) = true →
        (((decide (w64 (detZ m) = 1)) = true →
         (6, ()) = (rordZ m, ())) ∧
        ((decide (w64 (detZ m) = 1)) = false →
        (((decide (w64 (trcZ m) = (-2))) = true →
         (((decide (w64 (trcZ (wM (adjZ m))) = 2)) = true →
          (((decide (w64 (detZ m) = (-1))) = true →
           (6, ()) = (rordZ m, ())) ∧
          ((decide (w64 (detZ m) = (-1))) = false →
          (0, ()) = (rordZ m, ())))) ∧
         ((decide (w64 (trcZ (wM (adjZ m))) = 2)) = false →
         (0, ()) = (rordZ m, ())))) ∧
        ((decide (w64 (trcZ m) = (-2))) = false →
        (0, ()) = (rordZ m, ())))))) ∧
       ((decide (w64 (trcZ (wM (adjZ m))) = 2)) = false →
       (((decide (w64 (trcZ m) = (-2))) = true →
        (((decide (w64 (trcZ (wM (adjZ m))) = 2)) = true →
         (((decide (w64 (detZ m) = (-1))) = true →
          (6, ()) = (rordZ m, ())) ∧
         ((decide (w64 (detZ m) = (-1))) = false →
         (0, ()) = (rordZ m, ())))) ∧
        ((decide (w64 (trcZ (wM (adjZ m))) = 2)) = false →
        (0, ()) = (rordZ m, ())))) ∧
       ((decide (w64 (trcZ m) = (-2))) = false →
       (0, ()) = (rordZ m, ())))))) ∧
      ((decide (w64 (trcZ m) = 2)) = false →
      (((decide (w64 (trcZ m) = (-2))) = true →
       (((decide (w64 (trcZ (wM (adjZ m))) = 2)) = true →
        (((decide (w64 (detZ m) = (-1))) = true →
         (6, ()) = (rordZ m, ())) ∧
        ((decide (w64 (detZ m) = (-1))) = false →
        (0, ()) = (rordZ m, ())))) ∧
       ((decide (w64 (trcZ (wM (adjZ m))) = 2)) = false →
       (0, ()) = (rordZ m, ())))) ∧
      ((decide (w64 (trcZ m) = (-2))) = false →
      (0, ()) = (rordZ m, ())))))))) ∧
     ((decide (w64 (trcZ (wM (adjZ m))) = 0)) = false →
     (((decide (w64 (trcZ m) = 2)) = true →
      (((decide (w64 (trcZ (wM (adjZ m))) = 2)) = true →
       (((decide (w64 (detZ m) = 1)) = true →
        (6, ()) = (rordZ m, ())) ∧
       ((decide (w64 (detZ m) = 1)) = false →
       (((decide (w64 (trcZ m) = (-2))) = true →
        (((decide (w64 (trcZ (wM (adjZ m))) = 2)) = true →
         (((decide (w64 (detZ m) = (-1))) = true →
          (6, ()) = (rordZ m, ())) ∧
         ((decide (w64 (detZ m) = (-1))) = false →
         (0, ()) = (rordZ m, ())))) ∧
        ((decide (w64 (trcZ (wM (adjZ m))) = 2)) = false →
        (0, ()) = (rordZ m, ())))) ∧
       ((decide (w64 (trcZ m) = (-2))) = false →
       (0, ()) = (rordZ m, ())))))) ∧
      ((decide (w64 (trcZ (wM (adjZ m))) = 2)) = false →
      (((decide (w64 (trcZ m) = (-2))) = true →
       (((decide (w64 (trcZ (wM (adjZ m))) = 2)) = true →
        (((decide (w64 (detZ m) = (-1))) = true →
         (6, ()) = (rordZ m, ())) ∧
        ((decide (w64 (detZ m) = (-1))) = false →
        (0, ()) = (rordZ m, ())))) ∧
       ((decide (w64 (trcZ (wM (adjZ m))) = 2)) = false →
       (0, ()) = (rordZ m, ())))) ∧
      ((decide (w64 (trcZ m) = (-2))) = false →
      (0, ()) = (rordZ m, ())))))) ∧
     ((decide (w64 (trcZ m) = 2)) = false →
     (((decide (w64 (trcZ m) = (-2))) = true →
      (((decide (w64 (trcZ (wM (adjZ m))) = 2)) = true →
       (((decide (w64 (detZ m) = (-1))) = true →
        (6, ()) = (rordZ m, ())) ∧
       ((decide (w64 (detZ m) = (-1))) = false →
       (0, ()) = (rordZ m, ())))) ∧
      ((decide (w64 (trcZ (wM (adjZ m))) = 2)) = false →
      (0, ()) = (rordZ m, ())))) ∧
     ((decide (w64 (trcZ m) = (-2))) = false →
     (0, ()) = (rordZ m, ())))))))) ∧
    ((decide (w64 (trcZ m) = 0)) = false →
    (((decide (w64 (trcZ m) = 2)) = true →
     (((decide (w64 (trcZ (wM (adjZ m))) = 2)) = true →
      (((decide (w64 (detZ m) = 1)) = true →
       (6, ()) = (rordZ m, ())) ∧
      ((decide (w64 (detZ m) = 1)) = false →
      (((decide (w64 (trcZ m) = (-2))) = true →
       (((decide (w64 (trcZ (wM (adjZ m))) = 2)) = true →
        (((decide (w64 (detZ m) = (-1))) = true →
         (6, ()) = (rordZ m, ())) ∧
        ((decide (w64 (detZ m) = (-1))) = false →
        (0, ()) = (rordZ m, ())))) ∧
       ((decide (w64 (trcZ (wM (adjZ m))) = 2)) = false →
       (0, ()) = (rordZ m, ())))) ∧
      ((decide (w64 (trcZ m) = (-2))) = false →
      (0, ()) = (rordZ m, ())))))) ∧
     ((decide (w64 (trcZ (wM (adjZ m))) = 2)) = false →
     (((decide (w64 (trcZ m) = (-2))) = true →
      (((decide (w64 (trcZ (wM (adjZ m))) = 2)) = true →
       (((decide (w64 (detZ m) = (-1))) = true →
        (6, ()) = (rordZ m, ())) ∧
       ((decide (w64 (detZ m) = (-1))) = false →
       (0, ()) = (rordZ m, ())))) ∧
      ((decide (w64 (trcZ (wM (adjZ m))) = 2)) = false →
      (0, ()) = (rordZ m, ())))) ∧
     ((decide (w64 (trcZ m) = (-2))) = false →
     (0, ()) = (rordZ m, ())))))) ∧
    ((decide (w64 (trcZ m) = 2)) = false →
    (((decide (w64 (trcZ m) = (-2))) = true →
     (((decide (w64 (trcZ (wM (adjZ m))) = 2)) = true →
      (((decide (w64 (detZ m) = (-1))) = true →
       (6, ()) = (rordZ m, ())) ∧
      ((decide (w64 (detZ m) = (-1))) = false →
      (0, ()) = (rordZ m, ())))) ∧
     ((decide (w64 (trcZ (wM (adjZ m))) = 2)) = false →
     (0, ()) = (rordZ m, ())))) ∧
    ((decide (w64 (trcZ m) = (-2))) = false →
    (0, ()) = (rordZ m, ())))))))))) ∧
   ((decide (w64 (trcZ m) = (-1))) = false →
   (((decide (w64 (trcZ m) = 0)) = true →
    (((decide (w64 (trcZ (wM (adjZ m))) = 0)) = true →
     (((decide (w64 (detZ m) = (-1))) = true →
      (6, ()) = (rordZ m, ())) ∧
     ((decide (w64 (detZ m) = (-1))) = false →
     (((decide (w64 (trcZ m) = 2)) = true →
      (((decide (w64 (trcZ (wM (adjZ m))) = 2)) = true →
       (((decide (w64 (detZ m) = 1)) = true →
        (6, ()) = (rordZ m, ())) ∧
       ((decide (w64 (detZ m) = 1)) = false →
       (((decide (w64 (trcZ m) = (-2))) = true →
        (((decide (w64 (trcZ (wM (adjZ m))) = 2)) = true →
         (((decide (w64 (detZ m) = (-1))) = true →
          (6, ()) = (rordZ m, ())) ∧
         ((decide (w64 (detZ m) = (-1))) = false →
         (0, ()) = (rordZ m, ())))) ∧
        ((decide (w64 (trcZ (wM (adjZ m))) = 2)) = false →
        (0, ()) = (rordZ m, ())))) ∧
       ((decide (w64 (trcZ m) = (-2))) = false →
       (0, ()) = (rordZ m, ())))))) ∧
      ((decide (w64 (trcZ (wM (adjZ m))) = 2)) = false →
      (((decide (w64 (trcZ m) = (-2))) = true →
       (((decide (w64 (trcZ (wM (adjZ m))) = 2)) = true →
        (((decide (w64 (detZ m) = (-1))) = true →
         (6, ()) = (rordZ m, ())) ∧
        ((decide (w64 (detZ m) = (-1))) = false →
        (0, ()) = (rordZ m, ())))) ∧
       ((decide (w64 (trcZ (wM (adjZ m))) = 2)) = false →
       (0, ()) = (rordZ m, ())))) ∧
      ((decide (w64 (trcZ m) = (-2))) = false →
      (0, ()) = (rordZ m, ())))))) ∧
     ((decide (w64 (trcZ m) = 2)) = false →
     (((decide (w64 (trcZ m) = (-2))) = true →
      (((decide (w64 (trcZ (wM (adjZ m))) = 2)) = true →
       (((decide (w64 (detZ m) = (-1))) = true →
        (6, ()) = (rordZ m, ())) ∧
       ((decide (w64 (detZ m) = (-1))) = false →
       (0, ()) = (rordZ m, ())))) ∧
      ((decide (w64 (trcZ (wM (adjZ m))) = 2)) = false →
      (0, ()) = (rordZ m, ())))) ∧
     ((decide (w64 (trcZ m) = (-2))) = false →
     (0, ()) = (rordZ m, ())))))))) ∧
    ((decide (w64 (trcZ (wM (adjZ m))) = 0)) = false →
    (((decide (w64 (trcZ m) = 2)) = true →
     (((decide (w64 (trcZ (wM (adjZ m))) = 2)) = true →
      (((decide (w64 (detZ m) = 1)) = true →
       (6, ()) = (rordZ m, ())) ∧
      ((decide (w64 (detZ m) = 1)) = false →
      (((decide (w64 (trcZ m) = (-2))) = true →
       (((decide (w64 (trcZ (wM (adjZ m))) = 2)) = true →
        (((decide (w64 (detZ m) = (-1))) = true →
         (6, ()) = (rordZ m, ())) ∧
        ((decide (w64 (detZ m) = (-1))) = false →
        (0, ()) = (rordZ m, ())))) ∧
       ((decide (w64 (trcZ (wM (adjZ m))) = 2)) = false →
       (0, ()) = (rordZ m, ())))) ∧
      ((decide (w64 (trcZ m) = (-2))) = false →
      (0, ()) = (rordZ m, ())))))) ∧
     ((decide (w64 (trcZ (wM (adjZ m))) = 2)) = false →
     (((decide (w64 (trcZ m) = (-2))) = true →
      (((decide (w64 (trcZ (wM (adjZ m))) = 2)) = true →
       (((decide (w64 (detZ m) = (-1))) = true →
        (6, ()) = (rordZ m, ())) ∧
       ((decide (w64 (detZ m) = (-1))) = false →
       (0, ()) = (rordZ m, ())))) ∧
      ((decide (w64 (trcZ (wM (adjZ m))) = 2)) = false →
      (0, ()) = (rordZ m, ())))) ∧
     ((decide (w64 (trcZ m) = (-2))) = false →
     (0, ()) = (rordZ m, ())))))) ∧
    ((decide (w64 (trcZ m) = 2)) = false →
    (((decide (w64 (trcZ m) = (-2))) = true →
     (((decide (w64 (trcZ (wM (adjZ m))) = 2)) = true →
      (((decide (w64 (detZ m) = (-1))) = true →
       (6, ()) = (rordZ m, ())) ∧
      ((decide (w64 (detZ m) = (-1))) = false →
      (0, ()) = (rordZ m, ())))) ∧
     ((decide (w64 (trcZ (wM (adjZ m))) = 2)) = false →
     (0, ()) = (rordZ m, ())))) ∧
    ((decide (w64 (trcZ m) = (-2))) = false →
    (0, ()) = (rordZ m, ())))))))) ∧
   ((decide (w64 (trcZ m) = 0)) = false →
   (((decide (w64 (trcZ m) = 2)) = true →
    (((decide (w64 (trcZ (wM (adjZ m))) = 2)) = true →
     (((decide (w64 (detZ m) = 1)) = true →
      (6, ()) = (rordZ m, ())) ∧
     ((decide (w64 (detZ m) = 1)) = false →
     (((decide (w64 (trcZ m) = (-2))) = true →
      (((decide (w64 (trcZ (wM (adjZ m))) = 2)) = true →
       (((decide (w64 (detZ m) = (-1))) = true →
        (6, ()) = (rordZ m, ())) ∧
       ((decide (w64 (detZ m) = (-1))) = false →
       (0, ()) = (rordZ m, ())))) ∧
      ((decide (w64 (trcZ (wM (adjZ m))) = 2)) = false →
      (0, ()) = (rordZ m, ())))) ∧
     ((decide (w64 (trcZ m) = (-2))) = false →
     (0, ()) = (rordZ m, ())))))) ∧
    ((decide (w64 (trcZ (wM (adjZ m))) = 2)) = false →
    (((decide (w64 (trcZ m) = (-2))) = true →
     (((decide (w64 (trcZ (wM (adjZ m))) = 2)) = true →
      (((decide (w64 (detZ m) = (-1))) = true →
       (6, ()) = (rordZ m, ())) ∧
      ((decide (w64 (detZ m) = (-1))) = false →
      (0, ()) = (rordZ m, ())))) ∧
     ((decide (w64 (trcZ (wM (adjZ m))) = 2)) = false →
     (0, ()) = (rordZ m, ())))) ∧
    ((decide (w64 (trcZ m) = (-2))) = false →
    (0, ()) = (rordZ m, ())))))) ∧
   ((decide (w64 (trcZ m) = 2)) = false →
   (((decide (w64 (trcZ m) = (-2))) = true →
    (((decide (w64 (trcZ (wM (adjZ m))) = 2)) = true →
     (((decide (w64 (detZ m) = (-1))) = true →
      (6, ()) = (rordZ m, ())) ∧
     ((decide (w64 (detZ m) = (-1))) = false →
     (0, ()) = (rordZ m, ())))) ∧
    ((decide (w64 (trcZ (wM (adjZ m))) = 2)) = false →
    (0, ()) = (rordZ m, ())))) ∧
   ((decide (w64 (trcZ m) = (-2))) = false →
   (0, ()) = (rordZ m, ())))))))))))) ∧
  ((decide (w64 (trcZ m) = 1)) = false →
  (((decide (w64 (trcZ m) = (-1))) = true →
   (((decide (w64 (trcZ (wM (adjZ m))) = 1)) = true →
    (((decide (w64 (detZ m) = (-1))) = true →
     (4, ()) = (rordZ m, ())) ∧
    ((decide (w64 (detZ m) = (-1))) = false →
    (((decide (w64 (trcZ m) = 0)) = true →
     (((decide (w64 (trcZ (wM (adjZ m))) = 0)) = true →
      (((decide (w64 (detZ m) = (-1))) = true →
       (6, ()) = (rordZ m, ())) ∧
      ((decide (w64 (detZ m) = (-1))) = false →
      (((decide (w64 (trcZ m) = 2)) = true →
       (((decide (w64 (trcZ (wM (adjZ m))) = 2)) = true →
        (((decide (w64 (detZ m) = 1)) = true →
         (6, ()) = (rordZ m, ())) ∧
        ((decide (w64 (detZ m) = 1)) = false →
        (((decide (w64 (trcZ m) = (-2))) = true →
         (((decide (w64 (trcZ (wM (adjZ m))) = 2)) = true →
          (((decide (w64 (detZ m) = (-1))) = true →
           (6, ()) = (rordZ m, ())) ∧
          ((decide (w64 (detZ m) = (-1))) = false →
          (0, ()) = (rordZ m, ())))) ∧
         ((decide (w64 (trcZ (wM (adjZ m))) = 2)) = false →
         (0, ()) = (rordZ m, ())))) ∧
        ((decide (w64 (trcZ m) = (-2))) = false →
        (0, ()) = (rordZ m, ())))))) ∧
       ((decide (w64 (trcZ (wM (adjZ m))) = 2)) = false →
       (((decide (w64 (trcZ m) = (-2))) = true →
        (((decide (w64 (trcZ (wM (adjZ m))) = 2)) = true →
         (((decide (w64 (detZ m) = (-1))) = true →
          (6, ()) = (rordZ m, ())) ∧
         ((decide (w64 (detZ m) = (-1))) = false →
         (0, ()) = (rordZ m, ())))) ∧
        ((decide (w64 (trcZ (wM (adjZ m))) = 2)) = false →
        (0, ()) = (rordZ m, ())))) ∧
       ((decide (w64 (trcZ m) = (-2))) = false →
       (0, ()) = (rordZ m, ())))))) ∧
      ((decide (w64 (trcZ m) = 2)) = false →
      (((decide (w64 (trcZ m) = (-2))) = true →
       (((decide (w64 (trcZ (wM (adjZ m))) = 2)) = true →
        (((decide (w64 (detZ m) = (-1))) = true →
         (6, ()) = (rordZ m, ())) ∧
        ((decide (w64 (detZ m) = (-1))) = false →
        (0, ()) = (rordZ m, ())))) ∧
       ((decide (w64 (trcZ (wM (adjZ m))) = 2)) = false →
       (0, ()) = (rordZ m, ())))) ∧
      ((decide (w64 (trcZ m) = (-2))) = false →
      (0, ()) = (rordZ m, ())))))))) ∧
     ((decide (w64 (trcZ (wM (adjZ m))) = 0)) = false →
     (((decide (w64 (trcZ m) = 2)) = true →
      (((decide (w64 (trcZ (wM (adjZ m))) = 2)) = true →
       (((decide (w64 (detZ m) = 1)) = true →
        (6, ()) = (rordZ m, ())) ∧
       ((decide (w64 (detZ m) = 1)) = false →
       (((decide (w64 (trcZ m) = (-2))) = true →
        (((decide (w64 (trcZ (wM (adjZ m))) = 2)) = true →
         (((decide (w64 (detZ m) = (-1))) = true →
          (6, ()) = (rordZ m, ())) ∧
         ((decide (w64 (detZ m) = (-1))) = false →
         (0, ()) = (rordZ m, ())))) ∧
        ((decide (w64 (trcZ (wM (adjZ m))) = 2)) = false →
        (0, ()) = (rordZ m, ())))) ∧
       ((decide (w64 (trcZ m) = (-2))) = false →
       (0, ()) = (rordZ m, ())))))) ∧
      ((decide (w64 (trcZ (wM (adjZ m))) = 2)) = false →
      (((decide (w64 (trcZ m) = (-2))) = true →
       (((decide (w64 (trcZ (wM (adjZ m))) = 2)) = true →
        (((decide (w64 (detZ m) = (-1))) = true →
         (6, ()) = (rordZ m, ())) ∧
        ((decide (w64 (detZ m) = (-1))) = false →
        (0, ()) = (rordZ m, ())))) ∧
       ((decide (w64 (trcZ (wM (adjZ m))) = 2)) = false →
       (0, ()) = (rordZ m, ())))) ∧
      ((decide (w64 (trcZ m) = (-2))) = false →
      (0, ()) = (rordZ m, ())))))) ∧
     ((decide (w64 (trcZ m) = 2)) = false →
     (((decide (w64 (trcZ m) = (-2))) = true →
      (((decide (w64 (trcZ (wM (adjZ m))) = 2)) = true →
       (((decide (w64 (detZ m) = (-1))) = true →
        (6, ()) = (rordZ m, ())) ∧
       ((decide (w64 (detZ m) = (-1))) = false →
       (0, ()) = (rordZ m, ())))) ∧
      ((decide (w64 (trcZ (wM (adjZ m))) = 2)) = false →
      (0, ()) = (rordZ m, ())))) ∧
     ((decide (w64 (trcZ m) = (-2))) = false →
     (0, ()) = (rordZ m, ())))))))) ∧
    ((decide (w64 (trcZ m) = 0)) = false →
    (((decide (w64 (trcZ m) = 2)) = true →
     (((decide (w64 (trcZ (wM (adjZ m))) = 2)) = true →
      (((decide (w64 (detZ m) = 1)) = true →
       (6, ()) = (rordZ m, ())) ∧
      ((decide (w64 (detZ m) = 1)) = false →
      (((decide (w64 (trcZ m) = (-2))) = true →
       (((decide (w64 (trcZ (wM (adjZ m))) = 2)) = true →
        (((decide (w64 (detZ m) = (-1))) = true →
         (6, ()) = (rordZ m, ())) ∧
        ((decide (w64 (detZ m) = (-1))) = false →
        (0, ()) = (rordZ m, ())))) ∧
       ((decide (w64 (trcZ (wM (adjZ m))) = 2)) = false →
       (0, ()) = (rordZ m, ())))) ∧
      ((decide (w64 (trcZ m) = (-2))) = false →
      (0, ()) = (rordZ m, ())))))) ∧
     ((decide (w64 (trcZ (wM (adjZ m))) = 2)) = false →
     (((decide (w64 (trcZ m) = (-2))) = true →
      (((decide (w64 (trcZ (wM (adjZ m))) = 2)) = true →
       (((decide (w64 (detZ m) = (-1))) = true →
        (6, ()) = (rordZ m, ())) ∧
       ((decide (w64 (detZ m) = (-1))) = false →
       (0, ()) = (rordZ m, ())))) ∧
      ((decide (w64 (trcZ (wM (adjZ m))) = 2)) = false →
      (0, ()) = (rordZ m, ())))) ∧
     ((decide (w64 (trcZ m) = (-2))) = false →
     (0, ()) = (rordZ m, ())))))) ∧
    ((decide (w64 (trcZ m) = 2)) = false →
    (((decide (w64 (trcZ m) = (-2))) = true →
     (((decide (w64 (trcZ (wM (adjZ m))) = 2)) = true →
      (((decide (w64 (detZ m) = (-1))) = true →
       (6, ()) = (rordZ m, ())) ∧
      ((decide (w64 (detZ m) = (-1))) = false →
      (0, ()) = (rordZ m, ())))) ∧
     ((decide (w64 (trcZ (wM (adjZ m))) = 2)) = false →
     (0, ()) = (rordZ m, ())))) ∧
    ((decide (w64 (trcZ m) = (-2))) = false →
    (0, ()) = (rordZ m, ())))))))))) ∧
   ((decide (w64 (trcZ (wM (adjZ m))) = 1)) = false →
   (((decide (w64 (trcZ m) = 0)) = true →
    (((decide (w64 (trcZ (wM (adjZ m))) = 0)) = true →
     (((decide (w64 (detZ m) = (-1))) = true →
      (6, ()) = (rordZ m, ())) ∧
     ((decide (w64 (detZ m) = (-1))) = false →
     (((decide (w64 (trcZ m) = 2)) = true →
      (((decide (w64 (trcZ (wM (adjZ m))) = 2)) = true →
       (((decide (w64 (detZ m) = 1)) = true →
        (6, ()) = (rordZ m, ())) ∧
       ((decide (w64 (detZ m) = 1)) = false →
       (((decide (w64 (trcZ m) = (-2))) = true →
        (((decide (w64 (trcZ (wM (adjZ m))) = 2)) = true →
         (((decide (w64 (detZ m) = (-1))) = true →
          (6, ()) = (rordZ m, ())) ∧
         ((decide (w64 (detZ m) = (-1))) = false →
         (0, ()) = (rordZ m, ())))) ∧
        ((decide (w64 (trcZ (wM (adjZ m))) = 2)) = false →
        (0, ()) = (rordZ m, ())))) ∧
       ((decide (w64 (trcZ m) = (-2))) = false →
       (0, ()) = (rordZ m, ())))))) ∧
      ((decide (w64 (trcZ (wM (adjZ m))) = 2)) = false →
      (((decide (w64 (trcZ m) = (-2))) = true →
       (((decide (w64 (trcZ (wM (adjZ m))) = 2)) = true →
        (((decide (w64 (detZ m) = (-1))) = true →
         (6, ()) = (rordZ m, ())) ∧
        ((decide (w64 (detZ m) = (-1))) = false →
        (0, ()) = (rordZ m, ())))) ∧
       ((decide (w64 (trcZ (wM (adjZ m))) = 2)) = false →
       (0, ()) = (rordZ m, ())))) ∧
      ((decide (w64 (trcZ m) = (-2))) = false →
      (0, ()) = (rordZ m, ())))))) ∧
     ((decide (w64 (trcZ m) = 2)) = false →
     (((decide (w64 (trcZ m) = (-2))) = true →
      (((decide (w64 (trcZ (wM (adjZ m))) = 2)) = true →
       (((decide (w64 (detZ m) = (-1))) = true →
        (6, ()) = (rordZ m, ())) ∧
       ((decide (w64 (detZ m) = (-1))) = false →
       (0, ()) = (rordZ m, ())))) ∧
      ((decide (w64 (trcZ (wM (adjZ m))) = 2)) = false →
      (0, ()) = (rordZ m, ())))) ∧
     ((decide (w64 (trcZ m) = (-2))) = false →
     (0, ()) = (rordZ m, ())))))))) ∧
    ((decide (w64 (trcZ (wM (adjZ m))) = 0)) = false →
    (((decide (w64 (trcZ m) = 2)) = true →
     (((decide (w64 (trcZ (wM (adjZ m))) = 2)) = true →
      (((decide (w64 (detZ m) = 1)) = true →
       (6, ()) = (rordZ m, ())) ∧
      ((decide (w64 (detZ m) = 1)) = false →
      (((decide (w64 (trcZ m) = (-2))) = true →
       (((decide (w64 (trcZ (wM (adjZ m))) = 2)) = true →
        (((decide (w64 (detZ m) = (-1))) = true →
         (6, ()) = (rordZ m, ())) ∧
        ((decide (w64 (detZ m) = (-1))) = false →
        (0, ()) = (rordZ m, ())))) ∧
       ((decide (w64 (trcZ (wM (adjZ m))) = 2)) = false →
       (0, ()) = (rordZ m, ())))) ∧
      ((decide (w64 (trcZ m) = (-2))) = false →
      (0, ()) = (rordZ m, ())))))) ∧
     ((decide (w64 (trcZ (wM (adjZ m))) = 2)) = false →
     (((decide (w64 (trcZ m) = (-2))) = true →
      (((decide (w64 (trcZ (wM (adjZ m))) = 2)) = true →
       (((decide (w64 (detZ m) = (-1))) = true →
        (6, ()) = (rordZ m, ())) ∧
       ((decide (w64 (detZ m) = (-1))) = false →
       (0, ()) = (rordZ m, ())))) ∧
      ((decide (w64 (trcZ (wM (adjZ m))) = 2)) = false →
      (0, ()) = (rordZ m, ())))) ∧
     ((decide (w64 (trcZ m) = (-2))) = false →
     (0, ()) = (rordZ m, ())))))) ∧
    ((decide (w64 (trcZ m) = 2)) = false →
    (((decide (w64 (trcZ m) = (-2))) = true →
     (((decide (w64 (trcZ (wM (adjZ m))) = 2)) = true →
      (((decide (w64 (detZ m) = (-1))) = true →
       (6, ()) = (rordZ m, ())) ∧
      ((decide (w64 (detZ m) = (-1))) = false →
      (0, ()) = (rordZ m, ())))) ∧
     ((decide (w64 (trcZ (wM (adjZ m))) = 2)) = false →
     (0, ()) = (rordZ m, ())))) ∧
    ((decide (w64 (trcZ m) = (-2))) = false →
    (0, ()) = (rordZ m, ())))))))) ∧
   ((decide (w64 (trcZ m) = 0)) = false →
   (((decide (w64 (trcZ m) = 2)) = true →
    (((decide (w64 (trcZ (wM (adjZ m))) = 2)) = true →
     (((decide (w64 (detZ m) = 1)) = true →
      (6, ()) = (rordZ m, ())) ∧
     ((decide (w64 (detZ m) = 1)) = false →
     (((decide (w64 (trcZ m) = (-2))) = true →
      (((decide (w64 (trcZ (wM (adjZ m))) = 2)) = true →
       (((decide (w64 (detZ m) = (-1))) = true →
        (6, ()) = (rordZ m, ())) ∧
       ((decide (w64 (detZ m) = (-1))) = false →
       (0, ()) = (rordZ m, ())))) ∧
      ((decide (w64 (trcZ (wM (adjZ m))) = 2)) = false →
      (0, ()) = (rordZ m, ())))) ∧
     ((decide (w64 (trcZ m) = (-2))) = false →
     (0, ()) = (rordZ m, ())))))) ∧
    ((decide (w64 (trcZ (wM (adjZ m))) = 2)) = false →
    (((decide (w64 (trcZ m) = (-2))) = true →
     (((decide (w64 (trcZ (wM (adjZ m))) = 2)) = true →
      (((decide (w64 (detZ m) = (-1))) = true →
       (6, ()) = (rordZ m, ())) ∧
      ((decide (w64 (detZ m) = (-1))) = false →
      (0, ()) = (rordZ m, ())))) ∧
     ((decide (w64 (trcZ (wM (adjZ m))) = 2)) = false →
     (0, ()) = (rordZ m, ())))) ∧
    ((decide (w64 (trcZ m) = (-2))) = false →
    (0, ()) = (rordZ m, ())))))) ∧
   ((decide (w64 (trcZ m) = 2)) = false →
   (((decide (w64 (trcZ m) = (-2))) = true →
    (((decide (w64 (trcZ (wM (adjZ m))) = 2)) = true →
     (((decide (w64 (detZ m) = (-1))) = true →
      (6, ()) = (rordZ m, ())) ∧
     ((decide (w64 (detZ m) = (-1))) = false →
     (0, ()) = (rordZ m, ())))) ∧
    ((decide (w64 (trcZ (wM (adjZ m))) = 2)) = false →
    (0, ()) = (rordZ m, ())))) ∧
   ((decide (w64 (trcZ m) = (-2))) = false →
   (0, ()) = (rordZ m, ())))))))))) ∧
  ((decide (w64 (trcZ m) = (-1))) = false →
  (((decide (w64 (trcZ m) = 0)) = true →
   (((decide (w64 (trcZ (wM (adjZ m))) = 0)) = true →
    (((decide (w64 (detZ m) = (-1))) = true →
     (6, ()) = (rordZ m, ())) ∧
    ((decide (w64 (detZ m) = (-1))) = false →
    (((decide (w64 (trcZ m) = 2)) = true →
     (((decide (w64 (trcZ (wM (adjZ m))) = 2)) = true →
      (((decide (w64 (detZ m) = 1)) = true →
       (6, ()) = (rordZ m, ())) ∧
      ((decide (w64 (detZ m) = 1)) = false →
      (((decide (w64 (trcZ m) = (-2))) = true →
       (((decide (w64 (trcZ (wM (adjZ m))) = 2)) = true →
        (((decide (w64 (detZ m) = (-1))) = true →
         (6, ()) = (rordZ m, ())) ∧
        ((decide (w64 (detZ m) = (-1))) = false →
        (0, ()) = (rordZ m, ())))) ∧
       ((decide (w64 (trcZ (wM (adjZ m))) = 2)) = false →
       (0, ()) = (rordZ m, ())))) ∧
      ((decide (w64 (trcZ m) = (-2))) = false →
      (0, ()) = (rordZ m, ())))))) ∧
     ((decide (w64 (trcZ (wM (adjZ m))) = 2)) = false →
     (((decide (w64 (trcZ m) = (-2))) = true →
      (((decide (w64 (trcZ (wM (adjZ m))) = 2)) = true →
       (((decide (w64 (detZ m) = (-1))) = true →
        (6, ()) = (rordZ m, ())) ∧
       ((decide (w64 (detZ m) = (-1))) = false →
       (0, ()) = (rordZ m, ())))) ∧
      ((decide (w64 (trcZ (wM (adjZ m))) = 2)) = false →
      (0, ()) = (rordZ m, ())))) ∧
     ((decide (w64 (trcZ m) = (-2))) = false →
     (0, ()) = (rordZ m, ())))))) ∧
    ((decide (w64 (trcZ m) = 2)) = false →
    (((decide (w64 (trcZ m) = (-2))) = true →
     (((decide (w64 (trcZ (wM (adjZ m))) = 2)) = true →
      (((decide (w64 (detZ m) = (-1))) = true →
       (6, ()) = (rordZ m, ())) ∧
      ((decide (w64 (detZ m) = (-1))) = false →
      (0, ()) = (rordZ m, ())))) ∧
     ((decide (w64 (trcZ (wM (adjZ m))) = 2)) = false →
     (0, ()) = (rordZ m, ())))) ∧
    ((decide (w64 (trcZ m) = (-2))) = false →
    (0, ()) = (rordZ m, ())))))))) ∧
   ((decide (w64 (trcZ (wM (adjZ m))) = 0)) = false →
   (((decide (w64 (trcZ m) = 2)) = true →
    (((decide (w64 (trcZ (wM (adjZ m))) = 2)) = true →
     (((decide (w64 (detZ m) = 1)) = true →
      (6, ()) = (rordZ m, ())) ∧
     ((decide (w64 (detZ m) = 1)) = false →
     (((decide (w64 (trcZ m) = (-2))) = true →
      (((decide (w64 (trcZ (wM (adjZ m))) = 2)) = true →
       (((decide (w64 (detZ m) = (-1))) = true →
        (6, ()) = (rordZ m, ())) ∧
       ((decide (w64 (detZ m) = (-1))) = false →
       (0, ()) = (rordZ m, ())))) ∧
      ((decide (w64 (trcZ (wM (adjZ m))) = 2)) = false →
      (0, ()) = (rordZ m, ())))) ∧
     ((decide (w64 (trcZ m) = (-2))) = false →
     (0, ()) = (rordZ m, ())))))) ∧
    ((decide (w64 (trcZ (wM (adjZ m))) = 2)) = false →
    (((decide (w64 (trcZ m) = (-2))) = true →
     (((decide (w64 (trcZ (wM (adjZ m))) = 2)) = true →
      (((decide (w64 (detZ m) = (-1))) = true →
       (6, ()) = (rordZ m, ())) ∧
      ((decide (w64 (detZ m) = (-1))) = false →
      (0, ()) = (rordZ m, ())))) ∧
     ((decide (w64 (trcZ (wM (adjZ m))) = 2)) = false →
     (0, ()) = (rordZ m, ())))) ∧
    ((decide (w64 (trcZ m) = (-2))) = false →
    (0, ()) = (rordZ m, ())))))) ∧
   ((decide (w64 (trcZ m) = 2)) = false →
   (((decide (w64 (trcZ m) = (-2))) = true →
    (((decide (w64 (trcZ (wM (adjZ m))) = 2)) = true →
     (((decide (w64 (detZ m) = (-1))) = true →
      (6, ()) = (rordZ m, ())) ∧
     ((decide (w64 (detZ m) = (-1))) = false →
     (0, ()) = (rordZ m, ())))) ∧
    ((decide (w64 (trcZ (wM (adjZ m))) = 2)) = false →
    (0, ()) = (rordZ m, ())))) ∧
   ((decide (w64 (trcZ m) = (-2))) = false →
   (0, ()) = (rordZ m, ())))))))) ∧
  ((decide (w64 (trcZ m) = 0)) = false →
  (((decide (w64 (trcZ m) = 2)) = true →
   (((decide (w64 (trcZ (wM (adjZ m))) = 2)) = true →
    (((decide (w64 (detZ m) = 1)) = true →
     (6, ()) = (rordZ m, ())) ∧
    ((decide (w64 (detZ m) = 1)) = false →
    (((decide (w64 (trcZ m) = (-2))) = true →
     (((decide (w64 (trcZ (wM (adjZ m))) = 2)) = true →
      (((decide (w64 (detZ m) = (-1))) = true →
       (6, ()) = (rordZ m, ())) ∧
      ((decide (w64 (detZ m) = (-1))) = false →
      (0, ()) = (rordZ m, ())))) ∧
     ((decide (w64 (trcZ (wM (adjZ m))) = 2)) = false →
     (0, ()) = (rordZ m, ())))) ∧
    ((decide (w64 (trcZ m) = (-2))) = false →
    (0, ()) = (rordZ m, ())))))) ∧
   ((decide (w64 (trcZ (wM (adjZ m))) = 2)) = false →
   (((decide (w64 (trcZ m) = (-2))) = true →
    (((decide (w64 (trcZ (wM (adjZ m))) = 2)) = true →
     (((decide (w64 (detZ m) = (-1))) = true →
      (6, ()) = (rordZ m, ())) ∧
     ((decide (w64 (detZ m) = (-1))) = false →
     (0, ()) = (rordZ m, ())))) ∧
    ((decide (w64 (trcZ (wM (adjZ m))) = 2)) = false →
    (0, ()) = (rordZ m, ())))) ∧
   ((decide (w64 (trcZ m) = (-2))) = false →
   (0, ()) = (rordZ m, ())))))) ∧
  ((decide (w64 (trcZ m) = 2)) = false →
  (((decide (w64 (trcZ m) = (-2))) = true →
   (((decide (w64 (trcZ (wM (adjZ m))) = 2)) = true →
    (((decide (w64 (detZ m) = (-1))) = true →
     (6, ()) = (rordZ m, ())) ∧
    ((decide (w64 (detZ m) = (-1))) = false →
    (0, ()) = (rordZ m, ())))) ∧
   ((decide (w64 (trcZ (wM (adjZ m))) = 2)) = false →
   (0, ()) = (rordZ m, ())))) ∧
  ((decide (w64 (trcZ m) = (-2))) = false →
  (0, ()) = (rordZ m, ())))))))))))))) ∧
 ((decide (w64 (trcZ (wM (adjZ m))) = 0)) = false →
 (((decide (w64 (trcZ m) = 1)) = true →
  (((decide (w64 (trcZ (wM (adjZ m))) = 1)) = true →
   (((decide (w64 (detZ m) = 1)) = true →
    (4, ()) = (rordZ m, ())) ∧
   ((decide (w64 (detZ m) = 1)) = false →
   (((decide (w64 (trcZ m) = (-1))) = true →
    (((decide (w64 (trcZ (wM (adjZ m))) = 1)) = true →
     (((decide (w64 (detZ m) = (-1))) = true →
      (4, ()) = (rordZ m, ())) ∧
     ((decide (w64 (detZ m) = (-1))) = false →
     (((decide (w64 (trcZ m) = 0)) = true →
      (((decide (w64 (trcZ (wM (adjZ m))) = 0)) = true →
       (((decide (w64 (detZ m) = (-1))) = true →
        (6, ()) = (rordZ m, ())) ∧
       ((decide (w64 (detZ m) = (-1))) = false →
       (((decide (w64 (trcZ m) = 2)) = true →
        (((decide (w64 (trcZ (wM (adjZ m))) = 2)) = true →
         (((decide (w64 (detZ m) = 1)) = true →
          (6, ()) = (rordZ m, ())) ∧
         ((decide (w64 (detZ m) = 1)) = false →
         (((decide (w64 (trcZ m) = (-2))) = true →
          (((decide (w64 (trcZ (wM (adjZ m))) = 2)) = true →
           (((decide (w64 (detZ m) = (-1))) = true →
            (6, ()) = (rordZ m, ())) ∧
           ((decide (w64 (detZ m) = (-1))) = false →
           (0, ()) = (rordZ m, ())))) ∧
          ((decide (w64 (trcZ (wM (adjZ m))) = 2)) = false →
          (0, ()) = (rordZ m, ())))) ∧
         ((decide (w64 (trcZ m) = (-2))) = false →
         (0, ()) = (rordZ m, ())))))) ∧
        ((decide (w64 (trcZ (wM (adjZ m))) = 2)) = false →
        (((decide (w64 (trcZ m) = (-2))) = true →
         (((decide (w64 (trcZ (wM (adjZ m))) = 2)) = true →
          (((decide (w64 (detZ m) = (-1))) = true →
           (6, ()) = (rordZ m, ())) ∧
          ((decide (w64 (detZ m) = (-1))) = false →
          (0, ()) = (rordZ m, ())))) ∧
         ((decide (w64 (trcZ (wM (adjZ m))) = 2)) = false →
         (0, ()) = (rordZ m, ())))) ∧
        ((decide (w64 (trcZ m) = (-2))) = false →
        (0, ()) = (rordZ m, ())))))) ∧
       ((decide (w64 (trcZ m) = 2)) = false →
       (((decide (w64 (trcZ m) = (-2))) = true →
        (((decide (w64 (trcZ (wM (adjZ m))) = 2)) = true →
         (((decide (w64 (detZ m) = (-1))) = true →
          (6, ()) = (rordZ m, ())) ∧
         ((decide (w64 (detZ m) = (-1))) = false →
         (0, ()) = (rordZ m, ())))) ∧
        ((decide (w64 (trcZ (wM (adjZ m))) = 2)) = false →
        (0, ()) = (rordZ m, ())))) ∧
       ((decide (w64 (trcZ m) = (-2))) = false →
       (0, ()) = (rordZ m, ())))))))) ∧
      ((decide (w64 (trcZ (wM (adjZ m))) = 0)) = false →
      (((decide (w64 (trcZ m) = 2)) = true →
       (((decide (w64 (trcZ (wM (adjZ m))) = 2)) = true →
        (((decide (w64 (detZ m) = 1)) = true →
         (6, ()) = (rordZ m, ())) ∧
        ((decide (w64 (detZ m) = 1)) = false →
        (((decide (w64 (trcZ m) = (-2))) = true →
         (((decide (w64 (trcZ (wM (adjZ m))) = 2)) = true →
          (((decide (w64 (detZ m) = (-1))) = true →
           (6, ()) = (rordZ m, ())) ∧
          ((decide (w64 (detZ m) = (-1))) = false →
          (0, ()) = (rordZ m, ())))) ∧
         ((decide (w64 (trcZ (wM (adjZ m))) = 2)) = false →
         (0, ()) = (rordZ m, ())))) ∧
        ((decide (w64 (trcZ m) = (-2))) = false →
        (0, ()) = (rordZ m, ())))))) ∧
       ((decide (w64 (trcZ (wM (adjZ m))) = 2)) = false →
       (((decide (w64 (trcZ m) = (-2))) = true →
        (((decide (w64 (trcZ (wM (adjZ m))) = 2)) = true →
         (((decide (w64 (detZ m) = (-1))) = true →
          (6, ()) = (rordZ m, ())) ∧
         ((decide (w64 (detZ m) = (-1))) = false →
         (0, ()) = (rordZ m, ())))) ∧
        ((decide (w64 (trcZ (wM (adjZ m))) = 2)) = false →
        (0, ()) = (rordZ m, ())))) ∧
       ((decide (w64 (trcZ m) = (-2))) = false →
       (0, ()) = (rordZ m, ())))))) ∧
      ((decide (w64 (trcZ m) = 2)) = false →
      (((decide (w64 (trcZ m) = (-2))) = true →
       (((decide (w64 (trcZ (wM (adjZ m))) = 2)) = true →
        (((decide (w64 (detZ m) = (-1))) = true →
         (6, ()) = (rordZ m, ())) ∧
        ((decide (w64 (detZ m) = (-1))) = false →
        (0, ()) = (rordZ m, ())))) ∧
       ((decide (w64 (trcZ (wM (adjZ m))) = 2)) = false →
       (0, ()) = (rordZ m, ())))) ∧
      ((decide (w64 (trcZ m) = (-2))) = false →
      (0, ()) = (rordZ m, ())))))))) ∧
     ((decide (w64 (trcZ m) = 0)) = false →
     (((decide (w64 (trcZ m) = 2)) = true →
      (((decide (w64 (trcZ (wM (adjZ m))) = 2)) = true →
       (((decide (w64 (detZ m) = 1)) = true →
        (6, ()) = (rordZ m, ())) ∧
       ((decide (w64 (detZ m) = 1)) = false →
       (((decide (w64 (trcZ m) = (-2))) = true →
        (((decide (w64 (trcZ (wM (adjZ m))) = 2)) = true →
         (((decide (w64 (detZ m) = (-1))) = true →
          (6, ()) = (rordZ m, ())) ∧
         ((decide (w64 (detZ m) = (-1))) = false →
         (0, ()) = (rordZ m, ())))) ∧
        ((decide (w64 (trcZ (wM (adjZ m))) = 2)) = false →
        (0, ()) = (rordZ m, ())))) ∧
       ((decide (w64 (trcZ m) = (-2))) = false →
       (0, ()) = (rordZ m, ())))))) ∧
      ((decide (w64 (trcZ (wM (adjZ m))) = 2)) = false →
      (((decide (w64 (trcZ m) = (-2))) = true →
       (((decide (w64 (trcZ (wM (adjZ m))) = 2)) = true →
        (((decide (w64 (detZ m) = (-1))) = true →
         (6, ()) = (rordZ m, ())) ∧
        ((decide (w64 (detZ m) = (-1))) = false →
        (0, ()) = (rordZ m, ())))) ∧
       ((decide (w64 (trcZ (wM (adjZ m))) = 2)) = false →
       (0, ()) = (rordZ m, ())))) ∧
      ((decide (w64 (trcZ m) = (-2))) = false →
      (0, ()) = (rordZ m, ())))))) ∧
     ((decide (w64 (trcZ m) = 2)) = false →
     (((decide (w64 (trcZ m) = (-2))) = true →
      (((decide (w64 (trcZ (wM (adjZ m))) = 2)) = true →
       (((decide (w64 (detZ m) = (-1))) = true →
        (6, ()) = (rordZ m, ())) ∧
       ((decide (w64 (detZ m) = (-1))) = false →
       (0, ()) = (rordZ m, ())))) ∧
      ((decide (w64 (trcZ (wM (adjZ m))) = 2)) = false →
      (0, ()) = (rordZ m, ())))) ∧
     ((decide (w64 (trcZ m) = (-2))) = false →
     (0, ()) = (rordZ m, ())))))))))) ∧
    ((decide (w64 (trcZ (wM (adjZ m))) = 1)) = false →
    (((decide (w64 (trcZ m) = 0)) = true →
     (((decide (w64 (trcZ (wM (adjZ m))) = 0)) = true →
      (((decide (w64 (detZ m) = (-1))) = true →
       (6, ()) = (rordZ m, ())) ∧
      ((decide (w64 (detZ m) = (-1))) = false →
      (((decide (w64 (trcZ m) = 2)) = true →
       (((decide (w64 (trcZ (wM (adjZ m))) = 2)) = true →
        (((decide (w64 (detZ m) = 1)) = true →
         (6, ()) = (rordZ m, ())) ∧
        ((decide (w64 (detZ m) = 1)) = false →
        (((decide (w64 (trcZ m) = (-2))) = true →
         (((decide (w64 (trcZ (wM (adjZ m))) = 2)) = true →
          (((decide (w64 (detZ m) = (-1))) = true →
           (6, ()) = (rordZ m, ())) ∧
          ((decide (w64 (detZ m) = (-1))) = false →
          (0, ()) = (rordZ m, ())))) ∧
         ((decide (w64 (trcZ (wM (adjZ m))) = 2)) = false →
         (0, ()) = (rordZ m, ())))) ∧
        ((decide (w64 (trcZ m) = (-2))) = false →
        (0, ()) = (rordZ m, ())))))) ∧
       ((decide (w64 (trcZ (wM (adjZ m))) = 2)) = false →
       (((decide (w64 (trcZ m) = (-2))) = true →
        (((decide (w64 (trcZ (wM (adjZ m))) = 2)) = true →
         (((decide (w64 (detZ m) = (-1))) = true →
          (6, ()) = (rordZ m, ())) ∧
         ((decide (w64 (detZ m) = (-1))) = false →
         (0, ()) = (rordZ m, ())))) ∧
        ((decide (w64 (trcZ (wM (adjZ m))) = 2)) = false →
        (0, ()) = (rordZ m, ())))) ∧
       ((decide (w64 (trcZ m) = (-2))) = false →
       (0, ()) = (rordZ m, ())))))) ∧
      ((decide (w64 (trcZ m) = 2)) = false →
      (((decide (w64 (trcZ m) = (-2))) = true →
       (((decide (w64 (trcZ (wM (adjZ m))) = 2)) = true →
        (((decide (w64 (detZ m) = (-1))) = true →
         (6, ()) = (rordZ m, ())) ∧
        ((decide (w64 (detZ m) = (-1))) = false →
        (0, ()) = (rordZ m, ())))) ∧
       ((decide (w64 (trcZ (wM (adjZ m))) = 2)) = false →
       (0, ()) = (rordZ m, ())))) ∧
      ((decide (w64 (trcZ m) = (-2))) = false →
      (0, ()) = (rordZ m, ())))))))) ∧
     ((decide (w64 (trcZ (wM (adjZ m))) = 0)) = false →
     (((decide (w64 (trcZ m) = 2)) = true →
      (((decide (w64 (trcZ (wM (adjZ m))) = 2)) = true →
       (((decide (w64 (detZ m) = 1)) = true →
        (6, ()) = (rordZ m, ())) ∧
       ((decide (w64 (detZ m) = 1)) = false →
       (((decide (w64 (trcZ m) = (-2))) = true →
        (((decide (w64 (trcZ (wM (adjZ m))) = 2)) = true →
         (((decide (w64 (detZ m) = (-1))) = true →
          (6, ()) = (rordZ m, ())) ∧
         ((decide (w64 (detZ m) = (-1))) = false →
         (0, ()) = (rordZ m, ())))) ∧
        ((decide (w64 (trcZ (wM (adjZ m))) = 2)) = false →
        (0, ()) = (rordZ m, ())))) ∧
       ((decide (w64 (trcZ m) = (-2))) = false →
       (0, ()) = (rordZ m, ())))))) ∧
      ((decide (w64 (trcZ (wM (adjZ m))) = 2)) = false →
      (((decide (w64 (trcZ m) = (-2))) = true →
       (((decide (w64 (trcZ (wM (adjZ m))) = 2)) = true →
        (((decide (w64 (detZ m) = (-1))) = true →
         (6, ()) = (rordZ m, ())) ∧
        ((decide (w64 (detZ m) = (-1))) = false →
        (0, ()) = (rordZ m, ())))) ∧
       ((decide (w64 (trcZ (wM (adjZ m))) = 2)) = false →
       (0, ()) = (rordZ m, ())))) ∧
      ((decide (w64 (trcZ m) = (-2))) = false →
      (0, ()) = (rordZ m, ())))))) ∧
     ((decide (w64 (trcZ m) = 2)) = false →
     (((decide (w64 (trcZ m) = (-2))) = true →
      (((decide (w64 (trcZ (wM (adjZ m))) = 2)) = true →
       (((decide (w64 (detZ m) = (-1))) = true →
        (6, ()) = (rordZ m, ())) ∧
       ((decide (w64 (detZ m) = (-1))) = false →
       (0, ()) = (rordZ m, ())))) ∧
      ((decide (w64 (trcZ (wM (adjZ m))) = 2)) = false →
      (0, ()) = (rordZ m, ())))) ∧
     ((decide (w64 (trcZ m) = (-2))) = false →
     (0, ()) = (rordZ m, ())))))))) ∧
    ((decide (w64 (trcZ m) = 0)) = false →
    (((decide (w64 (trcZ m) = 2)) = true →
     (((decide (w64 (trcZ (wM (adjZ m))) = 2)) = true →
      (((decide (w64 (detZ m) = 1)) = true →
       (6, ()) = (rordZ m, ())) ∧
      ((decide (w64 (detZ m) = 1)) = false →
      (((decide (w64 (trcZ m) = (-2))) = true →
       (((decide (w64 (trcZ (wM (adjZ m))) = 2)) = true →
        (((decide (w64 (detZ m) = (-1))) = true →
         (6, ()) = (rordZ m, ())) ∧
        ((decide (w64 (detZ m) = (-1))) = false →
        (0, ()) = (rordZ m, ())))) ∧
       ((decide (w64 (trcZ (wM (adjZ m))) = 2)) = false →
       (0, ()) = (rordZ m, ())))) ∧
      ((decide (w64 (trcZ m) = (-2))) = false →
      (0, ()) = (rordZ m, ())))))) ∧
     ((decide (w64 (trcZ (wM (adjZ m))) = 2)) = false →
     (((decide (w64 (trcZ m) = (-2))) = true →
      (((decide (w64 (trcZ (wM (adjZ m))) = 2)) = true →
       (((decide (w64 (detZ m) = (-1))) = true →
        (6, ()) = (rordZ m, ())) ∧
       ((decide (w64 (detZ m) = (-1))) = false →
       (0, ()) = (rordZ m, ())))) ∧
      ((decide (w64 (trcZ (wM (adjZ m))) = 2)) = false →
      (0, ()) = (rordZ m, ())))) ∧
     ((decide (w64 (trcZ m) = (-2))) = false →
     (0, ()) = (rordZ m, ())))))) ∧
    ((decide (w64 (trcZ m) = 2)) = false →
    (((decide (w64 (trcZ m) = (-2))) = true →
     (((decide (w64 (trcZ (wM (adjZ m))) = 2)) = true →
      (((decide (w64 (detZ m) = (-1))) = true →
       (6, ()) = (rordZ m, ())) ∧
      ((decide (w64 (detZ m) = (-1))) = false →
      (0, ()) = (rordZ m, ())))) ∧
     ((decide (w64 (trcZ (wM (adjZ m))) = 2)) = false →
     (0, ()) = (rordZ m, ())))) ∧
    ((decide (w64 (trcZ m) = (-2))) = false →
    (0, ()) = (rordZ m, ())))))))))) ∧
   ((decide (w64 (trcZ m) = (-1))) = false →
   (((decide (w64 (trcZ m) = 0)) = true →
    (((decide (w64 (trcZ (wM (adjZ m))) = 0)) = true →
     (((decide (w64 (detZ m) = (-1))) = true →
      (6, ()) = (rordZ m, ())) ∧
     ((decide (w64 (detZ m) = (-1))) = false →
     (((decide (w64 (trcZ m) = 2)) = true →
      (((decide (w64 (trcZ (wM (adjZ m))) = 2)) = true →
       (((decide (w64 (detZ m) = 1)) = true →
        (6, ()) = (rordZ m, ())) ∧
       ((decide (w64 (detZ m) = 1)) = false →
       (((decide (w64 (trcZ m) = (-2))) = true →
        (((decide (w64 (trcZ (wM (adjZ m))) = 2)) = true →
         (((decide (w64 (detZ m) = (-1))) = true →
          (6, ()) = (rordZ m, ())) ∧
         ((decide (w64 (detZ m) = (-1))) = false →
         (0, ()) = (rordZ m, ())))) ∧
        ((decide (w64 (trcZ (wM (adjZ m))) = 2)) = false →
        (0, ()) = (rordZ m, ())))) ∧
       ((decide (w64 (trcZ m) = (-2))) = false →
       (0, ()) = (rordZ m, ())))))) ∧
      ((decide (w64 (trcZ (wM (adjZ m))) = 2)) = false →
      (((decide (w64 (trcZ m) = (-2))) = true →
       (((decide (w64 (trcZ (wM (adjZ m))) = 2)) = true →
        (((decide (w64 (detZ m) = (-1))) = true →
         (6, ()) = (rordZ m, ())) ∧
        ((decide (w64 (detZ m) = (-1))) = false →
        (0, ()) = (rordZ m, ())))) ∧
       ((decide (w64 (trcZ (wM (adjZ m))) = 2)) = false →
       (0, ()) = (rordZ m, ())))) ∧
      ((decide (w64 (trcZ m) = (-2))) = false →
      (0, ()) = (rordZ m, ())))))) ∧
     ((decide (w64 (trcZ m) = 2)) = false →
     (((decide (w64 (trcZ m) = (-2))) = true →
      (((decide (w64 (trcZ (wM (adjZ m))) = 2)) = true →
       (((decide (w64 (detZ m) = (-1))) = true →
        (6, ()) = (rordZ m, ())) ∧
       ((decide (w64 (detZ m) = (-1))) = false →
       (0, ()) = (rordZ m, ())))) ∧
      ((decide (w64 (trcZ (wM (adjZ m))) = 2)) = false →
      (0, ()) = (rordZ m, ())))) ∧
     ((decide (w64 (trcZ m) = (-2))) = false →
     (0, ()) = (rordZ m, ())))))))) ∧
    ((decide (w64 (trcZ (wM (adjZ m))) = 0)) = false →
    (((decide (w64 (trcZ m) = 2)) = true →
     (((decide (w64 (trcZ (wM (adjZ m))) = 2)) = true →
      (((decide (w64 (detZ m) = 1)) = true →
       (6, ()) = (rordZ m, ())) ∧
      ((decide (w64 (detZ m) = 1)) = false →
      (((decide (w64 (trcZ m) = (-2))) = true →
       (((decide (w64 (trcZ (wM (adjZ m))) = 2)) = true →
        (((decide (w64 (detZ m) = (-1))) = true →
         (6, ()) = (rordZ m, ())) ∧
        ((decide (w64 (detZ m) = (-1))) = false →
        (0, ()) = (rordZ m, ())))) ∧
       ((decide (w64 (trcZ (wM (adjZ m))) = 2)) = false →
       (0, ()) = (rordZ m, ())))) ∧
      ((decide (w64 (trcZ m) = (-2))) = false →
      (0, ()) = (rordZ m, ())))))) ∧
     ((decide (w64 (trcZ (wM (adjZ m))) = 2)) = false →
     (((decide (w64 (trcZ m) = (-2))) = true →
      (((decide (w64 (trcZ (wM (adjZ m))) = 2)) = true →
       (((decide (w64 (detZ m) = (-1))) = true →
        (6, ()) = (rordZ m, ())) ∧
       ((decide (w64 (detZ m) = (-1))) = false →
       (0, ()) = (rordZ m, ())))) ∧
      ((decide (w64 (trcZ (wM (adjZ m))) = 2)) = false →
      (0, ()) = (rordZ m, ())))) ∧
     ((decide (w64 (trcZ m) = (-2))) = false →
     (0, ()) = (rordZ m, ())))))) ∧
    ((decide (w64 (trcZ m) = 2)) = false →
    (((decide (w64 (trcZ m) = (-2))) = true →
     (((decide (w64 (trcZ (wM (adjZ m))) = 2)) = true →
      (((decide (w64 (detZ m) = (-1))) = true →
       (6, ()) = (rordZ m, ())) ∧
      ((decide (w64 (detZ m) = (-1))) = false →
      (0, ()) = (rordZ m, ())))) ∧
     ((decide (w64 (trcZ (wM (adjZ m))) = 2)) = false →
     (0, ()) = (rordZ m, ())))) ∧
    ((decide (w64 (trcZ m) = (-2))) = false →
    (0, ()) = (rordZ m, ())))))))) ∧
   ((decide (w64 (trcZ m) = 0)) = false →
   (((decide (w64 (trcZ m) = 2)) = true →
    (((decide (w64 (trcZ (wM (adjZ m))) = 2)) = true →
     (((decide (w64 (detZ m) = 1)) = true →
      (6, ()) = (rordZ m, ())) ∧
     ((decide (w64 (detZ m) = 1)) = false →
     (((decide (w64 (trcZ m) = (-2))) = true →
      (((decide (w64 (trcZ (wM (adjZ m))) = 2)) = true →
       (((decide (w64 (detZ m) = (-1))) = true →
        (6, ()) = (rordZ m, ())) ∧
       ((decide (w64 (detZ m) = (-1))) = false →
       (0, ()) = (rordZ m, ())))) ∧
      ((decide (w64 (trcZ (wM (adjZ m))) = 2)) = false →
      (0, ()) = (rordZ m, ())))) ∧
     ((decide (w64 (trcZ m) = (-2))) = false →
     (0, ()) = (rordZ m, ())))))) ∧
    ((decide (w64 (trcZ (wM (adjZ m))) = 2)) = false →
    (((decide (w64 (trcZ m) = (-2))) = true →
     (((decide (w64 (trcZ (wM (adjZ m))) = 2)) = true →
      (((decide (w64 (detZ m) = (-1))) = true →
       (6, ()) = (rordZ m, ())) ∧
      ((decide (w64 (detZ m) = (-1))) = false →
      (0, ()) = (rordZ m, ())))) ∧
     ((decide (w64 (trcZ (wM (adjZ m))) = 2)) = false →
     (0, ()) = (rordZ m, ())))) ∧
    ((decide (w64 (trcZ m) = (-2))) = false →
    (0, ()) = (rordZ m, ())))))) ∧
   ((decide (w64 (trcZ m) = 2)) = false →
   (((decide (w64 (trcZ m) = (-2))) = true →
    (((decide (w64 (trcZ (wM (adjZ m))) = 2)) = true →
     (((decide (w64 (detZ m) = (-1))) = true →
      (6, ()) = (rordZ m, ())) ∧
     ((decide (w64 (detZ m) = (-1))) = false →
     (0, ()) = (rordZ m, ())))) ∧
    ((decide (w64 (trcZ (wM (adjZ m))) = 2)) = false →
    (0, ()) = (rordZ m, ())))) ∧
   ((decide (w64 (trcZ m) = (-2))) = false →
   (0, ()) = (rordZ m, ())))))))))))) ∧
  ((decide (w64 (trcZ (wM (adjZ m))) = 1)) = false →
  (((decide (w64 (trcZ m) = (-1))) = true →
   (((decide (w64 (trcZ (wM (adjZ m))) = 1)) = true →
    (((decide (w64 (detZ m) = (-1))) = true →
     (4, ()) = (rordZ m, ())) ∧
    ((decide (w64 (detZ m) = (-1))) = false →
    (((decide (w64 (trcZ m) = 0)) = true →
     (((decide (w64 (trcZ (wM (adjZ m))) = 0)) = true →
      (((decide (w64 (detZ m) = (-1))) = true →
       (6, ()) = (rordZ m, ())) ∧
      ((decide (w64 (detZ m) = (-1))) = false →
      (((decide (w64 (trcZ m) = 2)) = true →
       (((decide (w64 (trcZ (wM (adjZ m))) = 2)) = true →
        (((decide (w64 (detZ m) = 1)) = true →
         (6, ()) = (rordZ m, ())) ∧
        ((decide (w64 (detZ m) = 1)) = false →
        (((decide (w64 (trcZ m) = (-2))) = true →
         (((decide (w64 (trcZ (wM (adjZ m))) = 2)) = true →
          (((decide (w64 (detZ m) = (-1))) = true →
           (6, ()) = (rordZ m, ())) ∧
          ((decide (w64 (detZ m) = (-1))) = false →
          (0, ()) = (rordZ m, ())))) ∧
         ((decide (w64 (trcZ (wM (adjZ m))) = 2)) = false →
         (0, ()) = (rordZ m, ())))) ∧
        ((decide (w64 (trcZ m) = (-2))) = false →
        (0, ()) = (rordZ m, ())))))) ∧
       ((decide (w64 (trcZ (wM (adjZ m))) = 2)) = false →
       (((decide (w64 (trcZ m) = (-2))) = true →
        (((decide (w64 (trcZ (wM (adjZ m))) = 2)) = true →
         (((decide (w64 (detZ m) = (-1))) = true →
          (6, ()) = (rordZ m, ())) ∧
         ((decide (w64 (detZ m) = (-1))) = false →
         (0, ()) = (rordZ m, ())))) ∧
        ((decide (w64 (trcZ (wM (adjZ m))) = 2)) = false →
        (0, ()) = (rordZ m, ())))) ∧
       ((decide (w64 (trcZ m) = (-2))) = false →
       (0, ()) = (rordZ m, ())))))) ∧
      ((decide (w64 (trcZ m) = 2)) = false →
      (((decide (w64 (trcZ m) = (-2))) = true →
       (((decide (w64 (trcZ (wM (adjZ m))) = 2)) = true →
        (((decide (w64 (detZ m) = (-1))) = true →
         (6, ()) = (rordZ m, ())) ∧
        ((decide (w64 (detZ m) = (-1))) = false →
        (0, ()) = (rordZ m, ())))) ∧
       ((decide (w64 (trcZ (wM (adjZ m))) = 2)) = false →
       (0, ()) = (rordZ m, ())))) ∧
      ((decide (w64 (trcZ m) = (-2))) = false →
      (0, ()) = (rordZ m, ())))))))) ∧
     ((decide (w64 (trcZ (wM (adjZ m))) = 0)) = false →
     (((decide (w64 (trcZ m) = 2)) = true →
      (((decide (w64 (trcZ (wM (adjZ m))) = 2)) = true →
       (((decide (w64 (detZ m) = 1)) = true →
        (6, ()) = (rordZ m, ())) ∧
       ((decide (w64 (detZ m) = 1)) = false →
       (((decide (w64 (trcZ m) = (-2))) = true →
        (((decide (w64 (trcZ (wM (adjZ m))) = 2)) = true →
         (((decide (w64 (detZ m) = (-1))) = true →
          (6, ()) = (rordZ m, ())) ∧
         ((decide (w64 (detZ m) = (-1))) = false →
         (0, ()) = (rordZ m, ())))) ∧
        ((decide (w64 (trcZ (wM (adjZ m))) = 2)) = false →
        (0, ()) = (rordZ m, ())))) ∧
       ((decide (w64 (trcZ m) = (-2))) = false →
       (0, ()) = (rordZ m, ())))))) ∧
      ((decide (w64 (trcZ (wM (adjZ m))) = 2)) = false →
      (((decide (w64 (trcZ m) = (-2))) = true →
       (((decide (w64 (trcZ (wM (adjZ m))) = 2)) = true →
        (((decide (w64 (detZ m) = (-1))) = true →
         (6, ()) = (rordZ m, ())) ∧
        ((decide (w64 (detZ m) = (-1))) = false →
        (0, ()) = (rordZ m, ())))) ∧
       ((decide (w64 (trcZ (wM (adjZ m))) = 2)) = false →
       (0, ()) = (rordZ m, ())))) ∧
      ((decide (w64 (trcZ m) = (-2))) = false →
      (0, ()) = (rordZ m, ())))))) ∧
     ((decide (w64 (trcZ m) = 2)) = false →
     (((decide (w64 (trcZ m) = (-2))) = true →
      (((decide (w64 (trcZ (wM (adjZ m))) = 2)) = true →
       (((decide (w64 (detZ m) = (-1))) = true →
        (6, ()) = (rordZ m, ())) ∧
       ((decide (w64 (detZ m) = (-1))) = false →
       (0, ()) = (rordZ m, ())))) ∧
      ((decide (w64 (trcZ (wM (adjZ m))) = 2)) = false →
      (0, ()) = (rordZ m, ())))) ∧
     ((decide (w64 (trcZ m) = (-2))) = false →
     (0, ()) = (rordZ m, ())))))))) ∧
    ((decide (w64 (trcZ m) = 0)) = false →
    (((decide (w64 (trcZ m) = 2)) = true →
     (((decide (w64 (trcZ (wM (adjZ m))) = 2)) = true →
      (((decide (w64 (detZ m) = 1)) = true →
       (6, ()) = (rordZ m, ())) ∧
      ((decide (w64 (detZ m) = 1)) = false →
      (((decide (w64 (trcZ m) = (-2))) = true →
       (((decide (w64 (trcZ (wM (adjZ m))) = 2)) = true →
        (((decide (w64 (detZ m) = (-1))) = true →
         (6, ()) = (rordZ m, ())) ∧
        ((decide (w64 (detZ m) = (-1))) = false →
        (0, ()) = (rordZ m, ())))) ∧
       ((decide (w64 (trcZ (wM (adjZ m))) = 2)) = false →
       (0, ()) = (rordZ m, ())))) ∧
      ((decide (w64 (trcZ m) = (-2))) = false →
      (0, ()) = (rordZ m, ())))))) ∧
     ((decide (w64 (trcZ (wM (adjZ m))) = 2)) = false →
     (((decide (w64 (trcZ m) = (-2))) = true →
      (((decide (w64 (trcZ (wM (adjZ m))) = 2)) = true →
       (((decide (w64 (detZ m) = (-1))) = true →
        (6, ()) = (rordZ m, ())) ∧
       ((decide (w64 (detZ m) = (-1))) = false →
       (0, ()) = (rordZ m, ())))) ∧
      ((decide (w64 (trcZ (wM (adjZ m))) = 2)) = false →
      (0, ()) = (rordZ m, ())))) ∧
     ((decide (w64 (trcZ m) = (-2))) = false →
     (0, ()) = (rordZ m, ())))))) ∧
    ((decide (w64 (trcZ m) = 2)) = false →
    (((decide (w64 (trcZ m) = (-2))) = true →
     (((decide (w64 (trcZ (wM (adjZ m))) = 2)) = true →
      (((decide (w64 (detZ m) = (-1))) = true →
       (6, ()) = (rordZ m, ())) ∧
      ((decide (w64 (detZ m) = (-1))) = false →
      (0, ()) = (rordZ m, ())))) ∧
     ((decide (w64 (trcZ (wM (adjZ m))) = 2)) = false →
     (0, ()) = (rordZ m, ())))) ∧
    ((decide (w64 (trcZ m) = (-2))) = false →
    (0, ()) = (rordZ m, ())))))))))) ∧
   ((decide (w64 (trcZ (wM (adjZ m))) = 1)) = false →
   (((decide (w64 (trcZ m) = 0)) = true →
    (((decide (w64 (trcZ (wM (adjZ m))) = 0)) = true →
     (((decide (w64 (detZ m) = (-1))) = true →
      (6, ()) = (rordZ m, ())) ∧
     ((decide (w64 (detZ m) = (-1))) = false →
     (((decide (w64 (trcZ m) = 2)) = true →
      (((decide (w64 (trcZ (wM (adjZ m))) = 2)) = true →
       (((decide (w64 (detZ m) = 1)) = true →
        (6, ()) = (rordZ m, ())) ∧
       ((decide (w64 (detZ m) = 1)) = false →
       (((decide (w64 (trcZ m) = (-2))) = true →
        (((decide (w64 (trcZ (wM (adjZ m))) = 2)) = true →
         (((decide (w64 (detZ m) = (-1))) = true →
          (6, ()) = (rordZ m, ())) ∧
         ((decide (w64 (detZ m) = (-1))) = false →
         (0, ()) = (rordZ m, ())))) ∧
        ((decide (w64 (trcZ (wM (adjZ m))) = 2)) = false →
        (0, ()) = (rordZ m, ())))) ∧
       ((decide (w64 (trcZ m) = (-2))) = false →
       (0, ()) = (rordZ m, ())))))) ∧
      ((decide (w64 (trcZ (wM (adjZ m))) = 2)) = false →
      (((decide (w64 (trcZ m) = (-2))) = true →
       (((decide (w64 (trcZ (wM (adjZ m))) = 2)) = true →
        (((decide (w64 (detZ m) = (-1))) = true →
         (6, ()) = (rordZ m, ())) ∧
        ((decide (w64 (detZ m) = (-1))) = false →
        (0, ()) = (rordZ m, ())))) ∧
       ((decide (w64 (trcZ (wM (adjZ m))) = 2)) = false →
       (0, ()) = (rordZ m, ())))) ∧
      ((decide (w64 (trcZ m) = (-2))) = false →
      (0, ()) = (rordZ m, ())))))) ∧
     ((decide (w64 (trcZ m) = 2)) = false →
     (((decide (w64 (trcZ m) = (-2))) = true →
      (((decide (w64 (trcZ (wM (adjZ m))) = 2)) = true →
       (((decide (w64 (detZ m) = (-1))) = true →
        (6, ()) = (rordZ m, ())) ∧
       ((decide (w64 (detZ m) = (-1))) = false →
       (0, ()) = (rordZ m, ())))) ∧
      ((decide (w64 (trcZ (wM (adjZ m))) = 2)) = false →
      (0, ()) = (rordZ m, ())))) ∧
     ((decide (w64 (trcZ m) = (-2))) = false →
     (0, ()) = (rordZ m, ())))))))) ∧
    ((decide (w64 (trcZ (wM (adjZ m))) = 0)) = false →
    (((decide (w64 (trcZ m) = 2)) = true →
     (((decide (w64 (trcZ (wM (adjZ m))) = 2)) = true →
      (((decide (w64 (detZ m) = 1)) = true →
       (6, ()) = (rordZ m, ())) ∧
      ((decide (w64 (detZ m) = 1)) = false →
      (((decide (w64 (trcZ m) = (-2))) = true →
       (((decide (w64 (trcZ (wM (adjZ m))) = 2)) = true →
        (((decide (w64 (detZ m) = (-1))) = true →
         (6, ()) = (rordZ m, ())) ∧
        ((decide (w64 (detZ m) = (-1))) = false →
        (0, ()) = (rordZ m, ())))) ∧
       ((decide (w64 (trcZ (wM (adjZ m))) = 2)) = false →
       (0, ()) = (rordZ m, ())))) ∧
      ((decide (w64 (trcZ m) = (-2))) = false →
      (0, ()) = (rordZ m, ())))))) ∧
     ((decide (w64 (trcZ (wM (adjZ m))) = 2)) = false →
     (((decide (w64 (trcZ m) = (-2))) = true →
      (((decide (w64 (trcZ (wM (adjZ m))) = 2)) = true →
       (((decide (w64 (detZ m) = (-1))) = true →
        (6, ()) = (rordZ m, ())) ∧
       ((decide (w64 (detZ m) = (-1))) = false →
       (0, ()) = (rordZ m, ())))) ∧
      ((decide (w64 (trcZ (wM (adjZ m))) = 2)) = false →
      (0, ()) = (rordZ m, ())))) ∧
     ((decide (w64 (trcZ m) = (-2))) = false →
     (0, ()) = (rordZ m, ())))))) ∧
    ((decide (w64 (trcZ m) = 2)) = false →
    (((decide (w64 (trcZ m) = (-2))) = true →
     (((decide (w64 (trcZ (wM (adjZ m))) = 2)) = true →
      (((decide (w64 (detZ m) = (-1))) = true →
       (6, ()) = (rordZ m, ())) ∧
      ((decide (w64 (detZ m) = (-1))) = false →
      (0, ()) = (rordZ m, ())))) ∧
     ((decide (w64 (trcZ (wM (adjZ m))) = 2)) = false →
     (0, ()) = (rordZ m, ())))) ∧
    ((decide (w64 (trcZ m) = (-2))) = false →
    (0, ()) = (rordZ m, ())))))))) ∧
   ((decide (w64 (trcZ m) = 0)) = false →
   (((decide (w64 (trcZ m) = 2)) = true →
    (((decide (w64 (trcZ (wM (adjZ m))) = 2)) = true →
     (((decide (w64 (detZ m) = 1)) = true →
      (6, ()) = (rordZ m, ())) ∧
     ((decide (w64 (detZ m) = 1)) = false →
     (((decide (w64 (trcZ m) = (-2))) = true →
      (((decide (w64 (trcZ (wM (adjZ m))) = 2)) = true →
       (((decide (w64 (detZ m) = (-1))) = true →
        (6, ()) = (rordZ m, ())) ∧
       ((decide (w64 (detZ m) = (-1))) = false →
       (0, ()) = (rordZ m, ())))) ∧
      ((decide (w64 (trcZ (wM (adjZ m))) = 2)) = false →
      (0, ()) = (rordZ m, ())))) ∧
     ((decide (w64 (trcZ m) = (-2))) = false →
     (0, ()) = (rordZ m, ())))))) ∧
    ((decide (w64 (trcZ (wM (adjZ m))) = 2)) = false →
    (((decide (w64 (trcZ m) = (-2))) = true →
     (((decide (w64 (trcZ (wM (adjZ m))) = 2)) = true →
      (((decide (w64 (detZ m) = (-1))) = true →
       (6, ()) = (rordZ m, ())) ∧
      ((decide (w64 (detZ m) = (-1))) = false →
      (0, ()) = (rordZ m, ())))) ∧
     ((decide (w64 (trcZ (wM (adjZ m))) = 2)) = false →
     (0, ()) = (rordZ m, ())))) ∧
    ((decide (w64 (trcZ m) = (-2))) = false →
    (0, ()) = (rordZ m, ())))))) ∧
   ((decide (w64 (trcZ m) = 2)) = false →
   (((decide (w64 (trcZ m) = (-2))) = true →
    (((decide (w64 (trcZ (wM (adjZ m))) = 2)) = true →
     (((decide (w64 (detZ m) = (-1))) = true →
      (6, ()) = (rordZ m, ())) ∧
     ((decide (w64 (detZ m) = (-1))) = false →
     (0, ()) = (rordZ m, ())))) ∧
    ((decide (w64 (trcZ (wM (adjZ m))) = 2)) = false →
    (0, ()) = (rordZ m, ())))) ∧
   ((decide (w64 (trcZ m) = (-2))) = false →
   (0, ()) = (rordZ m, ())))))))))) ∧
  ((decide (w64 (trcZ m) = (-1))) = false →
  (((decide (w64 (trcZ m) = 0)) = true →
   (((decide (w64 (trcZ (wM (adjZ m))) = 0)) = true →
    (((decide (w64 (detZ m) = (-1))) = true →
     (6, ()) = (rordZ m, ())) ∧
    ((decide (w64 (detZ m) = (-1))) = false →
    (((decide (w64 (trcZ m) = 2)) = true →
     (((decide (w64 (trcZ (wM (adjZ m))) = 2)) = true →
      (((decide (w64 (detZ m) = 1)) = true →
       (6, ()) = (rordZ m, ())) ∧
      ((decide (w64 (detZ m) = 1)) = false →
      (((decide (w64 (trcZ m) = (-2))) = true →
       (((decide (w64 (trcZ (wM (adjZ m))) = 2)) = true →
        (((decide (w64 (detZ m) = (-1))) = true →
         (6, ()) = (rordZ m, ())) ∧
        ((decide (w64 (detZ m) = (-1))) = false →
        (0, ()) = (rordZ m, ())))) ∧
       ((decide (w64 (trcZ (wM (adjZ m))) = 2)) = false →
       (0, ()) = (rordZ m, ())))) ∧
      ((decide (w64 (trcZ m) = (-2))) = false →
      (0, ()) = (rordZ m, ())))))) ∧
     ((decide (w64 (trcZ (wM (adjZ m))) = 2)) = false →
     (((decide (w64 (trcZ m) = (-2))) = true →
      (((decide (w64 (trcZ (wM (adjZ m))) = 2)) = true →
       (((decide (w64 (detZ m) = (-1))) = true →
        (6, ()) = (rordZ m, ())) ∧
       ((decide (w64 (detZ m) = (-1))) = false →
       (0, ()) = (rordZ m, ())))) ∧
      ((decide (w64 (trcZ (wM (adjZ m))) = 2)) = false →
      (0, ()) = (rordZ m, ())))) ∧
     ((decide (w64 (trcZ m) = (-2))) = false →
     (0, ()) = (rordZ m, ())))))) ∧
    ((decide (w64 (trcZ m) = 2)) = false →
    (((decide (w64 (trcZ m) = (-2))) = true →
     (((decide (w64 (trcZ (wM (adjZ m))) = 2)) = true →
      (((decide (w64 (detZ m) = (-1))) = true →
       (6, ()) = (rordZ m, ())) ∧
      ((decide (w64 (detZ m) = (-1))) = false →
      (0, ()) = (rordZ m, ())))) ∧
     ((decide (w64 (trcZ (wM (adjZ m))) = 2)) = false →
     (0, ()) = (rordZ m, ())))) ∧
    ((decide (w64 (trcZ m) = (-2))) = false →
    (0, ()) = (rordZ m, ())))))))) ∧
   ((decide (w64 (trcZ (wM (adjZ m))) = 0)) = false →
   (((decide (w64 (trcZ m) = 2)) = true →
    (((decide (w64 (trcZ (wM (adjZ m))) = 2)) = true →
     (((decide (w64 (detZ m) = 1)) = true →
      (6, ()) = (rordZ m, ())) ∧
     ((decide (w64 (detZ m) = 1)) = false →
     (((decide (w64 (trcZ m) = (-2))) = true →
      (((decide (w64 (trcZ (wM (adjZ m))) = 2)) = true →
       (((decide (w64 (detZ m) = (-1))) = true →
        (6, ()) = (rordZ m, ())) ∧
       ((decide (w64 (detZ m) = (-1))) = false →
       (0, ()) = (rordZ m, ())))) ∧
      ((decide (w64 (trcZ (wM (adjZ m))) = 2)) = false →
      (0, ()) = (rordZ m, ())))) ∧
     ((decide (w64 (trcZ m) = (-2))) = false →
     (0, ()) = (rordZ m, ())))))) ∧
    ((decide (w64 (trcZ (wM (adjZ m))) = 2)) = false →
    (((decide (w64 (trcZ m) = (-2))) = true →
     (((decide (w64 (trcZ (wM (adjZ m))) = 2)) = true →
      (((decide (w64 (detZ m) = (-1))) = true →
       (6, ()) = (rordZ m, ())) ∧
      ((decide (w64 (detZ m) = (-1))) = false →
      (0, ()) = (rordZ m, ())))) ∧
     ((decide (w64 (trcZ (wM (adjZ m))) = 2)) = false →
     (0, ()) = (rordZ m, ())))) ∧
    ((decide (w64 (trcZ m) = (-2))) = false →
    (0, ()) = (rordZ m, ())))))) ∧
   ((decide (w64 (trcZ m) = 2)) = false →
   (((decide (w64 (trcZ m) = (-2))) = true →
    (((decide (w64 (trcZ (wM (adjZ m))) = 2)) = true →
     (((decide (w64 (detZ m) = (-1))) = true →
      (6, ()) = (rordZ m, ())) ∧
     ((decide (w64 (detZ m) = (-1))) = false →
     (0, ()) = (rordZ m, ())))) ∧
    ((decide (w64 (trcZ (wM (adjZ m))) = 2)) = false →
    (0, ()) = (rordZ m, ())))) ∧
   ((decide (w64 (trcZ m) = (-2))) = false →
   (0, ()) = (rordZ m, ())))))))) ∧
  ((decide (w64 (trcZ m) = 0)) = false →
  (((decide (w64 (trcZ m) = 2)) = true →
   (((decide (w64 (trcZ (wM (adjZ m))) = 2)) = true →
    (((decide (w64 (detZ m) = 1)) = true →
     (6, ()) = (rordZ m, ())) ∧
    ((decide (w64 (detZ m) = 1)) = false →
    (((decide (w64 (trcZ m) = (-2))) = true →
     (((decide (w64 (trcZ (wM (adjZ m))) = 2)) = true →
      (((decide (w64 (detZ m) = (-1))) = true →
       (6, ()) = (rordZ m, ())) ∧
      ((decide (w64 (detZ m) = (-1))) = false →
      (0, ()) = (rordZ m, ())))) ∧
     ((decide (w64 (trcZ (wM (adjZ m))) = 2)) = false →
     (0, ()) = (rordZ m, ())))) ∧
    ((decide (w64 (trcZ m) = (-2))) = false →
    (0, ()) = (rordZ m, ())))))) ∧
   ((decide (w64 (trcZ (wM (adjZ m))) = 2)) = false →
   (((decide (w64 (trcZ m) = (-2))) = true →
    (((decide (w64 (trcZ (wM (adjZ m))) = 2)) = true →
     (((decide (w64 (detZ m) = (-1))) = true →
      (6, ()) = (rordZ m, ())) ∧
     ((decide (w64 (detZ m) = (-1))) = false →
     (0, ()) = (rordZ m, ())))) ∧
    ((decide (w64 (trcZ (wM (adjZ m))) = 2)) = false →
    (0, ()) = (rordZ m, ())))) ∧
   ((decide (w64 (trcZ m) = (-2))) = false →
   (0, ()) = (rordZ m, ())))))) ∧
  ((decide (w64 (trcZ m) = 2)) = false →
  (((decide (w64 (trcZ m) = (-2))) = true →
   (((decide (w64 (trcZ (wM (adjZ m))) = 2)) = true →
    (((decide (w64 (detZ m) = (-1))) = true →
     (6, ()) = (rordZ m, ())) ∧
    ((decide (w64 (detZ m) = (-1))) = false →
    (0, ()) = (rordZ m, ())))) ∧
   ((decide (w64 (trcZ (wM (adjZ m))) = 2)) = false →
   (0, ()) = (rordZ m, ())))) ∧
  ((decide (w64 (trcZ m) = (-2))) = false →
  (0, ()) = (rordZ m, ())))))))))))) ∧
 ((decide (w64 (trcZ m) = 1)) = false →
 (((decide (w64 (trcZ m) = (-1))) = true →
  (((decide (w64 (trcZ (wM (adjZ m))) = 1)) = true →
   (((decide (w64 (detZ m) = (-1))) = true →
    (4, ()) = (rordZ m, ())) ∧
   ((decide (w64 (detZ m) = (-1))) = false →
   (((decide (w64 (trcZ m) = 0)) = true →
    (((decide (w64 (trcZ (wM (adjZ m))) = 0)) = true →
     (((decide (w64 (detZ m) = (-1))) = true →
      (6, ()) = (rordZ m, ())) ∧
     ((decide (w64 (detZ m) = (-1))) = false →
     (((decide (w64 (trcZ m) = 2)) = true →
      (((decide (w64 (trcZ (wM (adjZ m))) = 2)) = true →
       (((decide (w64 (detZ m) = 1)) = true →
        (6, ()) = (rordZ m, ())) ∧
       ((decide (w64 (detZ m) = 1)) = false →
       (((decide (w64 (trcZ m) = (-2))) = true →
        (((decide (w64 (trcZ (wM (adjZ m))) = 2)) = true →
         (((decide (w64 (detZ m) = (-1))) = true →
          (6, ()) = (rordZ m, ())) ∧
         ((decide (w64 (detZ m) = (-1))) = false →
         (0, ()) = (rordZ m, ())))) ∧
        ((decide (w64 (trcZ (wM (adjZ m))) = 2)) = false →
        (0, ()) = (rordZ m, ())))) ∧
       ((decide (w64 (trcZ m) = (-2))) = false →
       (0, ()) = (rordZ m, ())))))) ∧
      ((decide (w64 (trcZ (wM (adjZ m))) = 2)) = false →
      (((decide (w64 (trcZ m) = (-2))) = true →
       (((decide (w64 (trcZ (wM (adjZ m))) = 2)) = true →
        (((decide (w64 (detZ m) = (-1))) = true →
         (6, ()) = (rordZ m, ())) ∧
        ((decide (w64 (detZ m) = (-1))) = false →
        (0, ()) = (rordZ m, ())))) ∧
       ((decide (w64 (trcZ (wM (adjZ m))) = 2)) = false →
       (0, ()) = (rordZ m, ())))) ∧
      ((decide (w64 (trcZ m) = (-2))) = false →
      (0, ()) = (rordZ m, ())))))) ∧
     ((decide (w64 (trcZ m) = 2)) = false →
     (((decide (w64 (trcZ m) = (-2))) = true →
      (((decide (w64 (trcZ (wM (adjZ m))) = 2)) = true →
       (((decide (w64 (detZ m) = (-1))) = true →
        (6, ()) = (rordZ m, ())) ∧
       ((decide (w64 (detZ m) = (-1))) = false →
       (0, ()) = (rordZ m, ())))) ∧
      ((decide (w64 (trcZ (wM (adjZ m))) = 2)) = false →
      (0, ()) = (rordZ m, ())))) ∧
     ((decide (w64 (trcZ m) = (-2))) = false →
     (0, ()) = (rordZ m, ())))))))) ∧
    ((decide (w64 (trcZ (wM (adjZ m))) = 0)) = false →
    (((decide (w64 (trcZ m) = 2)) = true →
     (((decide (w64 (trcZ (wM (adjZ m))) = 2)) = true →
      (((decide (w64 (detZ m) = 1)) = true →
       (6, ()) = (rordZ m, ())) ∧
      ((decide (w64 (detZ m) = 1)) = false →
      (((decide (w64 (trcZ m) = (-2))) = true →
       (((decide (w64 (trcZ (wM (adjZ m))) = 2)) = true →
        (((decide (w64 (detZ m) = (-1))) = true →
         (6, ()) = (rordZ m, ())) ∧
        ((decide (w64 (detZ m) = (-1))) = false →
        (0, ()) = (rordZ m, ())))) ∧
       ((decide (w64 (trcZ (wM (adjZ m))) = 2)) = false →
       (0, ()) = (rordZ m, ())))) ∧
      ((decide (w64 (trcZ m) = (-2))) = false →
      (0, ()) = (rordZ m, ())))))) ∧
     ((decide (w64 (trcZ (wM (adjZ m))) = 2)) = false →
     (((decide (w64 (trcZ m) = (-2))) = true →
      (((decide (w64 (trcZ (wM (adjZ m))) = 2)) = true →
       (((decide (w64 (detZ m) = (-1))) = true →
        (6, ()) = (rordZ m, ())) ∧
       ((decide (w64 (detZ m) = (-1))) = false →
       (0, ()) = (rordZ m, ())))) ∧
      ((decide (w64 (trcZ (wM (adjZ m))) = 2)) = false →
      (0, ()) = (rordZ m, ())))) ∧
     ((decide (w64 (trcZ m) = (-2))) = false →
     (0, ()) = (rordZ m, ())))))) ∧
    ((decide (w64 (trcZ m) = 2)) = false →
    (((decide (w64 (trcZ m) = (-2))) = true →
     (((decide (w64 (trcZ (wM (adjZ m))) = 2)) = true →
      (((decide (w64 (detZ m) = (-1))) = true →
       (6, ()) = (rordZ m, ())) ∧
      ((decide (w64 (detZ m) = (-1))) = false →
      (0, ()) = (rordZ m, ())))) ∧
     ((decide (w64 (trcZ (wM (adjZ m))) = 2)) = false →
     (0, ()) = (rordZ m, ())))) ∧
    ((decide (w64 (trcZ m) = (-2))) = false →
    (0, ()) = (rordZ m, ())))))))) ∧
   ((decide (w64 (trcZ m) = 0)) = false →
   (((decide (w64 (trcZ m) = 2)) = true →
    (((decide (w64 (trcZ (wM (adjZ m))) = 2)) = true →
     (((decide (w64 (detZ m) = 1)) = true →
      (6, ()) = (rordZ m, ())) ∧
     ((decide (w64 (detZ m) = 1)) = false →
     (((decide (w64 (trcZ m) = (-2))) = true →
      (((decide (w64 (trcZ (wM (adjZ m))) = 2)) = true →
       (((decide (w64 (detZ m) = (-1))) = true →
        (6, ()) = (rordZ m, ())) ∧
       ((decide (w64 (detZ m) = (-1))) = false →
       (0, ()) = (rordZ m, ())))) ∧
      ((decide (w64 (trcZ (wM (adjZ m))) = 2)) = false →
      (0, ()) = (rordZ m, ())))) ∧
     ((decide (w64 (trcZ m) = (-2))) = false →
     (0, ()) = (rordZ m, ())))))) ∧
    ((decide (w64 (trcZ (wM (adjZ m))) = 2)) = false →
    (((decide (w64 (trcZ m) = (-2))) = true →
     (((decide (w64 (trcZ (wM (adjZ m))) = 2)) = true →
      (((decide (w64 (detZ m) = (-1))) = true →
       (6, ()) = (rordZ m, ())) ∧
      ((decide (w64 (detZ m) = (-1))) = false →
      (0, ()) = (rordZ m, ())))) ∧
     ((decide (w64 (trcZ (wM (adjZ m))) = 2)) = false →
     (0, ()) = (rordZ m, ())))) ∧
    ((decide (w64 (trcZ m) = (-2))) = false →
    (0, ()) = (rordZ m, ())))))) ∧
   ((decide (w64 (trcZ m) = 2)) = false →
   (((decide (w64 (trcZ m) = (-2))) = true →
    (((decide (w64 (trcZ (wM (adjZ m))) = 2)) = true →
     (((decide (w64 (detZ m) = (-1))) = true →
      (6, ()) = (rordZ m, ())) ∧
     ((decide (w64 (detZ m) = (-1))) = false →
     (0, ()) = (rordZ m, ())))) ∧
    ((decide (w64 (trcZ (wM (adjZ m))) = 2)) = false →
    (0, ()) = (rordZ m, ())))) ∧
   ((decide (w64 (trcZ m) = (-2))) = false →
   (0, ()) = (rordZ m, ())))))))))) ∧
  ((decide (w64 (trcZ (wM (adjZ m))) = 1)) = false →
  (((decide (w64 (trcZ m) = 0)) = true →
   (((decide (w64 (trcZ (wM (adjZ m))) = 0)) = true →
    (((decide (w64 (detZ m) = (-1))) = true →
     (6, ()) = (rordZ m, ())) ∧
    ((decide (w64 (detZ m) = (-1))) = false →
    (((decide (w64 (trcZ m) = 2)) = true →
     (((decide (w64 (trcZ (wM (adjZ m))) = 2)) = true →
      (((decide (w64 (detZ m) = 1)) = true →
       (6, ()) = (rordZ m, ())) ∧
      ((decide (w64 (detZ m) = 1)) = false →
      (((decide (w64 (trcZ m) = (-2))) = true →
       (((decide (w64 (trcZ (wM (adjZ m))) = 2)) = true →
        (((decide (w64 (detZ m) = (-1))) = true →
         (6, ()) = (rordZ m, ())) ∧
        ((decide (w64 (detZ m) = (-1))) = false →
        (0, ()) = (rordZ m, ())))) ∧
       ((decide (w64 (trcZ (wM (adjZ m))) = 2)) = false →
       (0, ()) = (rordZ m, ())))) ∧
      ((decide (w64 (trcZ m) = (-2))) = false →
      (0, ()) = (rordZ m, ())))))) ∧
     ((decide (w64 (trcZ (wM (adjZ m))) = 2)) = false →
     (((decide (w64 (trcZ m) = (-2))) = true →
      (((decide (w64 (trcZ (wM (adjZ m))) = 2)) = true →
       (((decide (w64 (detZ m) = (-1))) = true →
        (6, ()) = (rordZ m, ())) ∧
       ((decide (w64 (detZ m) = (-1))) = false →
       (0, ()) = (rordZ m, ())))) ∧
      ((decide (w64 (trcZ (wM (adjZ m))) = 2)) = false →
      (0, ()) = (rordZ m, ())))) ∧
     ((decide (w64 (trcZ m) = (-2))) = false →
     (0, ()) = (rordZ m, ())))))) ∧
    ((decide (w64 (trcZ m) = 2)) = false →
    (((decide (w64 (trcZ m) = (-2))) = true →
     (((decide (w64 (trcZ (wM (adjZ m))) = 2)) = true →
      (((decide (w64 (detZ m) = (-1))) = true →
       (6, ()) = (rordZ m, ())) ∧
      ((decide (w64 (detZ m) = (-1))) = false →
      (0, ()) = (rordZ m, ())))) ∧
     ((decide (w64 (trcZ (wM (adjZ m))) = 2)) = false →
     (0, ()) = (rordZ m, ())))) ∧
    ((decide (w64 (trcZ m) = (-2))) = false →
    (0, ()) = (rordZ m, ())))))))) ∧
   ((decide (w64 (trcZ (wM (adjZ m))) = 0)) = false →
   (((decide (w64 (trcZ m) = 2)) = true →
    (((decide (w64 (trcZ (wM (adjZ m))) = 2)) = true →
     (((decide (w64 (detZ m) = 1)) = true →
      (6, ()) = (rordZ m, ())) ∧
     ((decide (w64 (detZ m) = 1)) = false →
     (((decide (w64 (trcZ m) = (-2))) = true →
      (((decide (w64 (trcZ (wM (adjZ m))) = 2)) = true →
       (((decide (w64 (detZ m) = (-1))) = true →
        (6, ()) = (rordZ m, ())) ∧
       ((decide (w64 (detZ m) = (-1))) = false →
       (0, ()) = (rordZ m, ())))) ∧
      ((decide (w64 (trcZ (wM (adjZ m))) = 2)) = false →
      (0, ()) = (rordZ m, ())))) ∧
     ((decide (w64 (trcZ m) = (-2))) = false →
     (0, ()) = (rordZ m, ())))))) ∧
    ((decide (w64 (trcZ (wM (adjZ m))) = 2)) = false →
    (((decide (w64 (trcZ m) = (-2))) = true →
     (((decide (w64 (trcZ (wM (adjZ m))) = 2)) = true →
      (((decide (w64 (detZ m) = (-1))) = true →
       (6, ()) = (rordZ m, ())) ∧
      ((decide (w64 (detZ m) = (-1))) = false →
      (0, ()) = (rordZ m, ())))) ∧
     ((decide (w64 (trcZ (wM (adjZ m))) = 2)) = false →
     (0, ()) = (rordZ m, ())))) ∧
    ((decide (w64 (trcZ m) = (-2))) = false →
    (0, ()) = (rordZ m, ())))))) ∧
   ((decide (w64 (trcZ m) = 2)) = false →
   (((decide (w64 (trcZ m) = (-2))) = true →
    (((decide (w64 (trcZ (wM (adjZ m))) = 2)) = true →
     (((decide (w64 (detZ m) = (-1))) = true →
      (6, ()) = (rordZ m, ())) ∧
     ((decide (w64 (detZ m) = (-1))) = false →
     (0, ()) = (rordZ m, ())))) ∧
    ((decide (w64 (trcZ (wM (adjZ m))) = 2)) = false →
    (0, ()) = (rordZ m, ())))) ∧
   ((decide (w64 (trcZ m) = (-2))) = false →
   (0, ()) = (rordZ m, ())))))))) ∧
  ((decide (w64 (trcZ m) = 0)) = false →
  (((decide (w64 (trcZ m) = 2)) = true →
   (((decide (w64 (trcZ (wM (adjZ m))) = 2)) = true →
    (((decide (w64 (detZ m) = 1)) = true →
     (6, ()) = (rordZ m, ())) ∧
    ((decide (w64 (detZ m) = 1)) = false →
    (((decide (w64 (trcZ m) = (-2))) = true →
     (((decide (w64 (trcZ (wM (adjZ m))) = 2)) = true →
      (((decide (w64 (detZ m) = (-1))) = true →
       (6, ()) = (rordZ m, ())) ∧
      ((decide (w64 (detZ m) = (-1))) = false →
      (0, ()) = (rordZ m, ())))) ∧
     ((decide (w64 (trcZ (wM (adjZ m))) = 2)) = false →
     (0, ()) = (rordZ m, ())))) ∧
    ((decide (w64 (trcZ m) = (-2))) = false →
    (0, ()) = (rordZ m, ())))))) ∧
   ((decide (w64 (trcZ (wM (adjZ m))) = 2)) = false →
   (((decide (w64 (trcZ m) = (-2))) = true →
    (((decide (w64 (trcZ (wM (adjZ m))) = 2)) = true →
     (((decide (w64 (detZ m) = (-1))) = true →
      (6, ()) = (rordZ m, ())) ∧
     ((decide (w64 (detZ m) = (-1))) = false →
     (0, ()) = (rordZ m, ())))) ∧
    ((decide (w64 (trcZ (wM (adjZ m))) = 2)) = false →
    (0, ()) = (rordZ m, ())))) ∧
   ((decide (w64 (trcZ m) = (-2))) = false →
   (0, ()) = (rordZ m, ())))))) ∧
  ((decide (w64 (trcZ m) = 2)) = false →
  (((decide (w64 (trcZ m) = (-2))) = true →
   (((decide (w64 (trcZ (wM (adjZ m))) = 2)) = true →
    (((decide (w64 (detZ m) = (-1))) = true →
     (6, ()) = (rordZ m, ())) ∧
    ((decide (w64 (detZ m) = (-1))) = false →
    (0, ()) = (rordZ m, ())))) ∧
   ((decide (w64 (trcZ (wM (adjZ m))) = 2)) = false →
   (0, ()) = (rordZ m, ())))) ∧
  ((decide (w64 (trcZ m) = (-2))) = false →
  (0, ()) = (rordZ m, ())))))))))) ∧
 ((decide (w64 (trcZ m) = (-1))) = false →
 (((decide (w64 (trcZ m) = 0)) = true →
  (((decide (w64 (trcZ (wM (adjZ m))) = 0)) = true →
   (((decide (w64 (detZ m) = (-1))) = true →
    (6, ()) = (rordZ m, ())) ∧
   ((decide (w64 (detZ m) = (-1))) = false →
   (((decide (w64 (trcZ m) = 2)) = true →
    (((decide (w64 (trcZ (wM (adjZ m))) = 2)) = true →
     (((decide (w64 (detZ m) = 1)) = true →
      (6, ()) = (rordZ m, ())) ∧
     ((decide (w64 (detZ m) = 1)) = false →
     (((decide (w64 (trcZ m) = (-2))) = true →
      (((decide (w64 (trcZ (wM (adjZ m))) = 2)) = true →
       (((decide (w64 (detZ m) = (-1))) = true →
        (6, ()) = (rordZ m, ())) ∧
       ((decide (w64 (detZ m) = (-1))) = false →
       (0, ()) = (rordZ m, ())))) ∧
      ((decide (w64 (trcZ (wM (adjZ m))) = 2)) = false →
      (0, ()) = (rordZ m, ())))) ∧
     ((decide (w64 (trcZ m) = (-2))) = false →
     (0, ()) = (rordZ m, ())))))) ∧
    ((decide (w64 (trcZ (wM (adjZ m))) = 2)) = false →
    (((decide (w64 (trcZ m) = (-2))) = true →
     (((decide (w64 (trcZ (wM (adjZ m))) = 2)) = true →
      (((decide (w64 (detZ m) = (-1))) = true →
       (6, ()) = (rordZ m, ())) ∧
      ((decide (w64 (detZ m) = (-1))) = false →
      (0, ()) = (rordZ m, ())))) ∧
     ((decide (w64 (trcZ (wM (adjZ m))) = 2)) = false →
     (0, ()) = (rordZ m, ())))) ∧
    ((decide (w64 (trcZ m) = (-2))) = false →
    (0, ()) = (rordZ m, ())))))) ∧
   ((decide (w64 (trcZ m) = 2)) = false →
   (((decide (w64 (trcZ m) = (-2))) = true →
    (((decide (w64 (trcZ (wM (adjZ m))) = 2)) = true →
     (((decide (w64 (detZ m) = (-1))) = true →
      (6, ()) = (rordZ m, ())) ∧
     ((decide (w64 (detZ m) = (-1))) = false →
     (0, ()) = (rordZ m, ())))) ∧
    ((decide (w64 (trcZ (wM (adjZ m))) = 2)) = false →
    (0, ()) = (rordZ m, ())))) ∧
   ((decide (w64 (trcZ m) = (-2))) = false →
   (0, ()) = (rordZ m, ())))))))) ∧
  ((decide (w64 (trcZ (wM (adjZ m))) = 0)) = false →
  (((decide (w64 (trcZ m) = 2)) = true →
   (((decide (w64 (trcZ (wM (adjZ m))) = 2)) = true →
    (((decide (w64 (detZ m) = 1)) = true →
     (6, ()) = (rordZ m, ())) ∧
    ((decide (w64 (detZ m) = 1)) = false →
    (((decide (w64 (trcZ m) = (-2))) = true →
     (((decide (w64 (trcZ (wM (adjZ m))) = 2)) = true →
      (((decide (w64 (detZ m) = (-1))) = true →
       (6, ()) = (rordZ m, ())) ∧
      ((decide (w64 (detZ m) = (-1))) = false →
      (0, ()) = (rordZ m, ())))) ∧
     ((decide (w64 (trcZ (wM (adjZ m))) = 2)) = false →
     (0, ()) = (rordZ m, ())))) ∧
    ((decide (w64 (trcZ m) = (-2))) = false →
    (0, ()) = (rordZ m, ())))))) ∧
   ((decide (w64 (trcZ (wM (adjZ m))) = 2)) = false →
   (((decide (w64 (trcZ m) = (-2))) = true →
    (((decide (w64 (trcZ (wM (adjZ m))) = 2)) = true →
     (((decide (w64 (detZ m) = (-1))) = true →
      (6, ()) = (rordZ m, ())) ∧
     ((decide (w64 (detZ m) = (-1))) = false →
     (0, ()) = (rordZ m, ())))) ∧
    ((decide (w64 (trcZ (wM (adjZ m))) = 2)) = false →
    (0, ()) = (rordZ m, ())))) ∧
   ((decide (w64 (trcZ m) = (-2))) = false →
   (0, ()) = (rordZ m, ())))))) ∧
  ((decide (w64 (trcZ m) = 2)) = false →
  (((decide (w64 (trcZ m) = (-2))) = true →
   (((decide (w64 (trcZ (wM (adjZ m))) = 2)) = true →
    (((decide (w64 (detZ m) = (-1))) = true →
     (6, ()) = (rordZ m, ())) ∧
    ((decide (w64 (detZ m) = (-1))) = false →
    (0, ()) = (rordZ m, ())))) ∧
   ((decide (w64 (trcZ (wM (adjZ m))) = 2)) = false →
   (0, ()) = (rordZ m, ())))) ∧
  ((decide (w64 (trcZ m) = (-2))) = false →
  (0, ()) = (rordZ m, ())))))))) ∧
 ((decide (w64 (trcZ m) = 0)) = false →
 (((decide (w64 (trcZ m) = 2)) = true →
  (((decide (w64 (trcZ (wM (adjZ m))) = 2)) = true →
   (((decide (w64 (detZ m) = 1)) = true →
    (6, ()) = (rordZ m, ())) ∧
   ((decide (w64 (detZ m) = 1)) = false →
   (((decide (w64 (trcZ m) = (-2))) = true →
    (((decide (w64 (trcZ (wM (adjZ m))) = 2)) = true →
     (((decide (w64 (detZ m) = (-1))) = true →
      (6, ()) = (rordZ m, ())) ∧
     ((decide (w64 (detZ m) = (-1))) = false →
     (0, ()) = (rordZ m, ())))) ∧
    ((decide (w64 (trcZ (wM (adjZ m))) = 2)) = false →
    (0, ()) = (rordZ m, ())))) ∧
   ((decide (w64 (trcZ m) = (-2))) = false →
   (0, ()) = (rordZ m, ())))))) ∧
  ((decide (w64 (trcZ (wM (adjZ m))) = 2)) = false →
  (((decide (w64 (trcZ m) = (-2))) = true →
   (((decide (w64 (trcZ (wM (adjZ m))) = 2)) = true →
    (((decide (w64 (detZ m) = (-1))) = true →
     (6, ()) = (rordZ m, ())) ∧
    ((decide (w64 (detZ m) = (-1))) = false →
    (0, ()) = (rordZ m, ())))) ∧
   ((decide (w64 (trcZ (wM (adjZ m))) = 2)) = false →
   (0, ()) = (rordZ m, ())))) ∧
  ((decide (w64 (trcZ m) = (-2))) = false →
  (0, ()) = (rordZ m, ())))))) ∧
 ((decide (w64 (trcZ m) = 2)) = false →
 (((decide (w64 (trcZ m) = (-2))) = true →
  (((decide (w64 (trcZ (wM (adjZ m))) = 2)) = true →
   (((decide (w64 (detZ m) = (-1))) = true →
    (6, ()) = (rordZ m, ())) ∧
   ((decide (w64 (detZ m) = (-1))) = false →
   (0, ()) = (rordZ m, ())))) ∧
  ((decide (w64 (trcZ (wM (adjZ m))) = 2)) = false →
  (0, ()) = (rordZ m, ())))) ∧
 ((decide (w64 (trcZ m) = (-2))) = false →
 (0, ()) = (rordZ m, ())))))))))))))) ∧
((decide (w64 (trcZ m) = 0)) = false →
(((decide (w64 (trcZ m) = 1)) = true →
 (((decide (w64 (trcZ (wM (adjZ m))) = 1)) = true →
  (((decide (w64 (detZ m) = 1)) = true →
   (4, ()) = (rordZ m, ())) ∧
  ((decide (w64 (detZ m) = 1)) = false →
  (((decide (w64 (trcZ m) = (-1))) = true →
   (((decide (w64 (trcZ (wM (adjZ m))) = 1)) = true →
    (((decide (w64 (detZ m) = (-1))) = true →
     (4, ()) = (rordZ m, ())) ∧
    ((decide (w64 (detZ m) = (-1))) = false →
    (((decide (w64 (trcZ m) = 0)) = true →
     (((decide (w64 (trcZ (wM (adjZ m))) = 0)) = true →
      (((decide (w64 (detZ m) = (-1))) = true →
       (6, ()) = (rordZ m, ())) ∧
      ((decide (w64 (detZ m) = (-1))) = false →
      (((decide (w64 (trcZ m) = 2)) = true →
       (((decide (w64 (trcZ (wM (adjZ m))) = 2)) = true →
        (((decide (w64 (detZ m) = 1)) = true →
         (6, ()) = (rordZ m, ())) ∧
        ((decide (w64 (detZ m) = 1)) = false →
        (((decide (w64 (trcZ m) = (-2))) = true →
         (((decide (w64 (trcZ (wM (adjZ m))) = 2)) = true →
          (((decide (w64 (detZ m) = (-1))) = true →
           (6, ()) = (rordZ m, ())) ∧
          ((decide (w64 (detZ m) = (-1))) = false →
          (0, ()) = (rordZ m, ())))) ∧
         ((decide (w64 (trcZ (wM (adjZ m))) = 2)) = false →
         (0, ()) = (rordZ m, ())))) ∧
        ((decide (w64 (trcZ m) = (-2))) = false →
        (0, ()) = (rordZ m, ())))))) ∧
       ((decide (w64 (trcZ (wM (adjZ m))) = 2)) = false →
       (((decide (w64 (trcZ m) = (-2))) = true →
        (((decide (w64 (trcZ (wM (adjZ m))) = 2)) = true →
         (((decide (w64 (detZ m) = (-1))) = true →
          (6, ()) = (rordZ m, ())) ∧
         ((decide (w64 (detZ m) = (-1))) = false →
         (0, ()) = (rordZ m, ())))) ∧
        ((decide (w64 (trcZ (wM (adjZ m))) = 2)) = false →
        (0, ()) = (rordZ m, ())))) ∧
       ((decide (w64 (trcZ m) = (-2))) = false →
       (0, ()) = (rordZ m, ())))))) ∧
      ((decide (w64 (trcZ m) = 2)) = false →
      (((decide (w64 (trcZ m) = (-2))) = true →
       (((decide (w64 (trcZ (wM (adjZ m))) = 2)) = true →
        (((decide (w64 (detZ m) = (-1))) = true →
         (6, ()) = (rordZ m, ())) ∧
        ((decide (w64 (detZ m) = (-1))) = false →
        (0, ()) = (rordZ m, ())))) ∧
       ((decide (w64 (trcZ (wM (adjZ m))) = 2)) = false →
       (0, ()) = (rordZ m, ())))) ∧
      ((decide (w64 (trcZ m) = (-2))) = false →
      (0, ()) = (rordZ m, ())))))))) ∧
     ((decide (w64 (trcZ (wM (adjZ m))) = 0)) = false →
     (((decide (w64 (trcZ m) = 2)) = true →
      (((decide (w64 (trcZ (wM (adjZ m))) = 2)) = true →
       (((decide (w64 (detZ m) = 1)) = true →
        (6, ()) = (rordZ m, ())) ∧
       ((decide (w64 (detZ m) = 1)) = false →
       (((decide (w64 (trcZ m) = (-2))) = true →
        (((decide (w64 (trcZ (wM (adjZ m))) = 2)) = true →
         (((decide (w64 (detZ m) = (-1))) = true →
          (6, ()) = (rordZ m, ())) ∧
         ((decide (w64 (detZ m) = (-1))) = false →
         (0, ()) = (rordZ m, ())))) ∧
        ((decide (w64 (trcZ (wM (adjZ m))) = 2)) = false →
        (0, ()) = (rordZ m, ())))) ∧
       ((decide (w64 (trcZ m) = (-2))) = false →
       (0, ()) = (rordZ m, ())))))) ∧
      ((decide (w64 (trcZ (wM (adjZ m))) = 2)) = false →
      (((decide (w64 (trcZ m) = (-2))) = true →
       (((decide (w64 (trcZ (wM (adjZ m))) = 2)) = true →
        (((decide (w64 (detZ m) = (-1))) = true →
         (6, ()) = (rordZ m, ())) ∧
        ((decide (w64 (detZ m) = (-1))) = false →
        (0, ()) = (rordZ m, ())))) ∧
       ((decide (w64 (trcZ (wM (adjZ m))) = 2)) = false →
       (0, ()) = (rordZ m, ())))) ∧
      ((decide (w64 (trcZ m) = (-2))) = false →
      (0, ()) = (rordZ m, ())))))) ∧
     ((decide (w64 (trcZ m) = 2)) = false →
     (((decide (w64 (trcZ m) = (-2))) = true →
      (((decide (w64 (trcZ (wM (adjZ m))) = 2)) = true →
       (((decide (w64 (detZ m) = (-1))) = true →
        (6, ()) = (rordZ m, ())) ∧
       ((decide (w64 (detZ m) = (-1))) = false →
       (0, ()) = (rordZ m, ())))) ∧
      ((decide (w64 (trcZ (wM (adjZ m))) = 2)) = false →
      (0, ()) = (rordZ m, ())))) ∧
     ((decide (w64 (trcZ m) = (-2))) = false →
     (0, ()) = (rordZ m, ())))))))) ∧
    ((decide (w64 (trcZ m) = 0)) = false →
    (((decide (w64 (trcZ m) = 2)) = true →
     (((decide (w64 (trcZ (wM (adjZ m))) = 2)) = true →
      (((decide (w64 (detZ m) = 1)) = true →
       (6, ()) = (rordZ m, ())) ∧
      ((decide (w64 (detZ m) = 1)) = false →
      (((decide (w64 (trcZ m) = (-2))) = true →
       (((decide (w64 (trcZ (wM (adjZ m))) = 2)) = true →
        (((decide (w64 (detZ m) = (-1))) = true →
         (6, ()) = (rordZ m, ())) ∧
        ((decide (w64 (detZ m) = (-1))) = false →
        (0, ()) = (rordZ m, ())))) ∧
       ((decide (w64 (trcZ (wM (adjZ m))) = 2)) = false →
       (0, ()) = (rordZ m, ())))) ∧
      ((decide (w64 (trcZ m) = (-2))) = false →
      (0, ()) = (rordZ m, ())))))) ∧
     ((decide (w64 (trcZ (wM (adjZ m))) = 2)) = false →
     (((decide (w64 (trcZ m) = (-2))) = true →
      (((decide (w64 (trcZ (wM (adjZ m))) = 2)) = true →
       (((decide (w64 (detZ m) = (-1))) = true →
        (6, ()) = (rordZ m, ())) ∧
       ((decide (w64 (detZ m) = (-1))) = false →
       (0, ()) = (rordZ m, ())))) ∧
      ((decide (w64 (trcZ (wM (adjZ m))) = 2)) = false →
      (0, ()) = (rordZ m, ())))) ∧
     ((decide (w64 (trcZ m) = (-2))) = false →
     (0, ()) = (rordZ m, ())))))) ∧
    ((decide (w64 (trcZ m) = 2)) = false →
    (((decide (w64 (trcZ m) = (-2))) = true →
     (((decide (w64 (trcZ (wM (adjZ m))) = 2)) = true →
      (((decide (w64 (detZ m) = (-1))) = true →
       (6, ()) = (rordZ m, ())) ∧
      ((decide (w64 (detZ m) = (-1))) = false →
      (0, ()) = (rordZ m, ())))) ∧
     ((decide (w64 (trcZ (wM (adjZ m))) = 2)) = false →
     (0, ()) = (rordZ m, ())))) ∧
    ((decide (w64 (trcZ m) = (-2))) = false →
    (0, ()) = (rordZ m, ())))))))))) ∧
   ((decide (w64 (trcZ (wM (adjZ m))) = 1)) = false →
   (((decide (w64 (trcZ m) = 0)) = true →
    (((decide (w64 (trcZ (wM (adjZ m))) = 0)) = true →
     (((decide (w64 (detZ m) = (-1))) = true →
      (6, ()) = (rordZ m, ())) ∧
     ((decide (w64 (detZ m) = (-1))) = false →
     (((decide (w64 (trcZ m) = 2)) = true →
      (((decide (w64 (trcZ (wM (adjZ m))) = 2)) = true →
       (((decide (w64 (detZ m) = 1)) = true →
        (6, ()) = (rordZ m, ())) ∧
       ((decide (w64 (detZ m) = 1)) = false →
       (((decide (w64 (trcZ m) = (-2))) = true →
        (((decide (w64 (trcZ (wM (adjZ m))) = 2)) = true →
         (((decide (w64 (detZ m) = (-1))) = true →
          (6, ()) = (rordZ m, ())) ∧
         ((decide (w64 (detZ m) = (-1))) = false →
         (0, ()) = (rordZ m, ())))) ∧
        ((decide (w64 (trcZ (wM (adjZ m))) = 2)) = false →
        (0, ()) = (rordZ m, ())))) ∧
       ((decide (w64 (trcZ m) = (-2))) = false →
       (0, ()) = (rordZ m, ())))))) ∧
      ((decide (w64 (trcZ (wM (adjZ m))) = 2)) = false →
      (((decide (w64 (trcZ m) = (-2))) = true →
       (((decide (w64 (trcZ (wM (adjZ m))) = 2)) = true →
        (((decide (w64 (detZ m) = (-1))) = true →
         (6, ()) = (rordZ m, ())) ∧
        ((decide (w64 (detZ m) = (-1))) = false →
        (0, ()) = (rordZ m, ())))) ∧
       ((decide (w64 (trcZ (wM (adjZ m))) = 2)) = false →
       (0, ()) = (rordZ m, ())))) ∧
      ((decide (w64 (trcZ m) = (-2))) = false →
      (0, ()) = (rordZ m, ())))))) ∧
     ((decide (w64 (trcZ m) = 2)) = false →
     (((decide (w64 (trcZ m) = (-2))) = true →
      (((decide (w64 (trcZ (wM (adjZ m))) = 2)) = true →
       (((decide (w64 (detZ m) = (-1))) = true →
        (6, ()) = (rordZ m, ())) ∧
       ((decide (w64 (detZ m) = (-1))) = false →
       (0, ()) = (rordZ m, ())))) ∧
      ((decide (w64 (trcZ (wM (adjZ m))) = 2)) = false →
      (0, ()) = (rordZ m, ())))) ∧
     ((decide (w64 (trcZ m) = (-2))) = false →
     (0, ()) = (rordZ m, ())))))))) ∧
    ((decide (w64 (trcZ (wM (adjZ m))) = 0)) = false →
    (((decide (w64 (trcZ m) = 2)) = true →
     (((decide (w64 (trcZ (wM (adjZ m))) = 2)) = true →
      (((decide (w64 (detZ m) = 1)) = true →
       (6, ()) = (rordZ m, ())) ∧
      ((decide (w64 (detZ m) = 1)) = false →
      (((decide (w64 (trcZ m) = (-2))) = true →
       (((decide (w64 (trcZ (wM (adjZ m))) = 2)) = true →
        (((decide (w64 (detZ m) = (-1))) = true →
         (6, ()) = (rordZ m, ())) ∧
        ((decide (w64 (detZ m) = (-1))) = false →
        (0, ()) = (rordZ m, ())))) ∧
       ((decide (w64 (trcZ (wM (adjZ m))) = 2)) = false →
       (0, ()) = (rordZ m, ())))) ∧
      ((decide (w64 (trcZ m) = (-2))) = false →
      (0, ()) = (rordZ m, ())))))) ∧
     ((decide (w64 (trcZ (wM (adjZ m))) = 2)) = false →
     (((decide (w64 (trcZ m) = (-2))) = true →
      (((decide (w64 (trcZ (wM (adjZ m))) = 2)) = true →
       (((decide (w64 (detZ m) = (-1))) = true →
        (6, ()) = (rordZ m, ())) ∧
       ((decide (w64 (detZ m) = (-1))) = false →
       (0, ()) = (rordZ m, ())))) ∧
      ((decide (w64 (trcZ (wM (adjZ m))) = 2)) = false →
      (0, ()) = (rordZ m, ())))) ∧
     ((decide (w64 (trcZ m) = (-2))) = false →
     (0, ()) = (rordZ m, ())))))) ∧
    ((decide (w64 (trcZ m) = 2)) = false →
    (((decide (w64 (trcZ m) = (-2))) = true →
     (((decide (w64 (trcZ (wM (adjZ m))) = 2)) = true →
      (((decide (w64 (detZ m) = (-1))) = true →
       (6, ()) = (rordZ m, ())) ∧
      ((decide (w64 (detZ m) = (-1))) = false →
      (0, ()) = (rordZ m, ())))) ∧
     ((decide (w64 (trcZ (wM (adjZ m))) = 2)) = false →
     (0, ()) = (rordZ m, ())))) ∧
    ((decide (w64 (trcZ m) = (-2))) = false →
    (0, ()) = (rordZ m, ())))))))) ∧
   ((decide (w64 (trcZ m) = 0)) = false →
   (((decide (w64 (trcZ m) = 2)) = true →
    (((decide (w64 (trcZ (wM (adjZ m))) = 2)) = true →
     (((decide (w64 (detZ m) = 1)) = true →
      (6, ()) = (rordZ m, ())) ∧
     ((decide (w64 (detZ m) = 1)) = false →
     (((decide (w64 (trcZ m) = (-2))) = true →
      (((decide (w64 (trcZ (wM (adjZ m))) = 2)) = true →
       (((decide (w64 (detZ m) = (-1))) = true →
        (6, ()) = (rordZ m, ())) ∧
       ((decide (w64 (detZ m) = (-1))) = false →
       (0, ()) = (rordZ m, ())))) ∧
      ((decide (w64 (trcZ (wM (adjZ m))) = 2)) = false →
      (0, ()) = (rordZ m, ())))) ∧
     ((decide (w64 (trcZ m) = (-2))) = false →
     (0, ()) = (rordZ m, ())))))) ∧
    ((decide (w64 (trcZ (wM (adjZ m))) = 2)) = false →
    (((decide (w64 (trcZ m) = (-2))) = true →
     (((decide (w64 (trcZ (wM (adjZ m))) = 2)) = true →
      (((decide (w64 (detZ m) = (-1))) = true →
       (6, ()) = (rordZ m, ())) ∧
      ((decide (w64 (detZ m) = (-1))) = false →
      (0, ()) = (rordZ m, ())))) ∧
     ((decide (w64 (trcZ (wM (adjZ m))) = 2)) = false →
     (0, ()) = (rordZ m, ())))) ∧
    ((decide (w64 (trcZ m) = (-2))) = false →
    (0, ()) = (rordZ m, ())))))) ∧
   ((decide (w64 (trcZ m) = 2)) = false →
   (((decide (w64 (trcZ m) = (-2))) = true →
    (((decide (w64 (trcZ (wM (adjZ m))) = 2)) = true →
     (((decide (w64 (detZ m) = (-1))) = true →
      (6, ()) = (rordZ m, ())) ∧
     ((decide (w64 (detZ m) = (-1))) = false →
     (0, ()) = (rordZ m, ())))) ∧
    ((decide (w64 (trcZ (wM (adjZ m))) = 2)) = false →
    (0, ()) = (rordZ m, ())))) ∧
   ((decide (w64 (trcZ m) = (-2))) = false →
   (0, ()) = (rordZ m, ())))))))))) ∧
  ((decide (w64 (trcZ m) = (-1))) = false →
  (((decide (w64 (trcZ m) = 0)) = true →
   (((decide (w64 (trcZ (wM (adjZ m))) = 0)) = true →
    (((decide (w64 (detZ m) = (-1))) = true →
     (6, ()) = (rordZ m, ())) ∧
    ((decide (w64 (detZ m) = (-1))) = false →
    (((decide (w64 (trcZ m) = 2)) = true →
     (((decide (w64 (trcZ (wM (adjZ m))) = 2)) = true →
      (((decide (w64 (detZ m) = 1)) = true →
       (6, ()) = (rordZ m, ())) ∧
      ((decide (w64 (detZ m) = 1)) = false →
      (((decide (w64 (trcZ m) = (-2))) = true →
       (((decide (w64 (trcZ (wM (adjZ m))) = 2)) = true →
        (((decide (w64 (detZ m) = (-1))) = true →
         (6, ()) = (rordZ m, ())) ∧
        ((decide (w64 (detZ m) = (-1))) = false →
        (0, ()) = (rordZ m, ())))) ∧
       ((decide (w64 (trcZ (wM (adjZ m))) = 2)) = false →
       (0, ()) = (rordZ m, ())))) ∧
      ((decide (w64 (trcZ m) = (-2))) = false →
      (0, ()) = (rordZ m, ())))))) ∧
     ((decide (w64 (trcZ (wM (adjZ m))) = 2)) = false →
     (((decide (w64 (trcZ m) = (-2))) = true →
      (((decide (w64 (trcZ (wM (adjZ m))) = 2)) = true →
       (((decide (w64 (detZ m) = (-1))) = true →
        (6, ()) = (rordZ m, ())) ∧
       ((decide (w64 (detZ m) = (-1))) = false →
       (0, ()) = (rordZ m, ())))) ∧
      ((decide (w64 (trcZ (wM (adjZ m))) = 2)) = false →
      (0, ()) = (rordZ m, ())))) ∧
     ((decide (w64 (trcZ m) = (-2))) = false →
     (0, ()) = (rordZ m, ())))))) ∧
    ((decide (w64 (trcZ m) = 2)) = false →
    (((decide (w64 (trcZ m) = (-2))) = true →
     (((decide (w64 (trcZ (wM (adjZ m))) = 2)) = true →
      (((decide (w64 (detZ m) = (-1))) = true →
       (6, ()) = (rordZ m, ())) ∧
      ((decide (w64 (detZ m) = (-1))) = false →
      (0, ()) = (rordZ m, ())))) ∧
     ((decide (w64 (trcZ (wM (adjZ m))) = 2)) = false →
     (0, ()) = (rordZ m, ())))) ∧
    ((decide (w64 (trcZ m) = (-2))) = false →
    (0, ()) = (rordZ m, ())))))))) ∧
   ((decide (w64 (trcZ (wM (adjZ m))) = 0)) = false →
   (((decide (w64 (trcZ m) = 2)) = true →
    (((decide (w64 (trcZ (wM (adjZ m))) = 2)) = true →
     (((decide (w64 (detZ m) = 1)) = true →
      (6, ()) = (rordZ m, ())) ∧
     ((decide (w64 (detZ m) = 1)) = false →
     (((decide (w64 (trcZ m) = (-2))) = true →
      (((decide (w64 (trcZ (wM (adjZ m))) = 2)) = true →
       (((decide (w64 (detZ m) = (-1))) = true →
        (6, ()) = (rordZ m, ())) ∧
       ((decide (w64 (detZ m) = (-1))) = false →
       (0, ()) = (rordZ m, ())))) ∧
      ((decide (w64 (trcZ (wM (adjZ m))) = 2)) = false →
      (0, ()) = (rordZ m, ())))) ∧
     ((decide (w64 (trcZ m) = (-2))) = false →
     (0, ()) = (rordZ m, ())))))) ∧
    ((decide (w64 (trcZ (wM (adjZ m))) = 2)) = false →
    (((decide (w64 (trcZ m) = (-2))) = true →
     (((decide (w64 (trcZ (wM (adjZ m))) = 2)) = true →
      (((decide (w64 (detZ m) = (-1))) = true →
       (6, ()) = (rordZ m, ())) ∧
      ((decide (w64 (detZ m) = (-1))) = false →
      (0, ()) = (rordZ m, ())))) ∧
     ((decide (w64 (trcZ (wM (adjZ m))) = 2)) = false →
     (0, ()) = (rordZ m, ())))) ∧
    ((decide (w64 (trcZ m) = (-2))) = false →
    (0, ()) = (rordZ m, ())))))) ∧
   ((decide (w64 (trcZ m) = 2)) = false →
   (((decide (w64 (trcZ m) = (-2))) = true →
    (((decide (w64 (trcZ (wM (adjZ m))) = 2)) = true →
     (((decide (w64 (detZ m) = (-1))) = true →
      (6, ()) = (rordZ m, ())) ∧
     ((decide (w64 (detZ m) = (-1))) = false →
     (0, ()) = (rordZ m, ())))) ∧
    ((decide (w64 (trcZ (wM (adjZ m))) = 2)) = false →
    (0, ()) = (rordZ m, ())))) ∧
   ((decide (w64 (trcZ m) = (-2))) = false →
   (0, ()) = (rordZ m, ())))))))) ∧
  ((decide (w64 (trcZ m) = 0)) = false →
  (((decide (w64 (trcZ m) = 2)) = true →
   (((decide (w64 (trcZ (wM (adjZ m))) = 2)) = true →
    (((decide (w64 (detZ m) = 1)) = true →
     (6, ()) = (rordZ m, ())) ∧
    ((decide (w64 (detZ m) = 1)) = false →
    (((decide (w64 (trcZ m) = (-2))) = true →
     (((decide (w64 (trcZ (wM (adjZ m))) = 2)) = true →
      (((decide (w64 (detZ m) = (-1))) = true →
       (6, ()) = (rordZ m, ())) ∧
      ((decide (w64 (detZ m) = (-1))) = false →
      (0, ()) = (rordZ m, ())))) ∧
     ((decide (w64 (trcZ (wM (adjZ m))) = 2)) = false →
     (0, ()) = (rordZ m, ())))) ∧
    ((decide (w64 (trcZ m) = (-2))) = false →
    (0, ()) = (rordZ m, ())))))) ∧
   ((decide (w64 (trcZ (wM (adjZ m))) = 2)) = false →
   (((decide (w64 (trcZ m) = (-2))) = true →
    (((decide (w64 (trcZ (wM (adjZ m))) = 2)) = true →
     (((decide (w64 (detZ m) = (-1))) = true →
      (6, ()) = (rordZ m, ())) ∧
     ((decide (w64 (detZ m) = (-1))) = false →
     (0, ()) = (rordZ m, ())))) ∧
    ((decide (w64 (trcZ (wM (adjZ m))) = 2)) = false →
    (0, ()) = (rordZ m, ())))) ∧
   ((decide (w64 (trcZ m) = (-2))) = false →
   (0, ()) = (rordZ m, ())))))) ∧
  ((decide (w64 (trcZ m) = 2)) = false →
  (((decide (w64 (trcZ m) = (-2))) = true →
   (((decide (w64 (trcZ (wM (adjZ m))) = 2)) = true →
    (((decide (w64 (detZ m) = (-1))) = true →
     (6, ()) = (rordZ m, ())) ∧
    ((decide (w64 (detZ m) = (-1))) = false →
    (0, ()) = (rordZ m, ())))) ∧
   ((decide (w64 (trcZ (wM (adjZ m))) = 2)) = false →
   (0, ()) = (rordZ m, ())))) ∧
  ((decide (w64 (trcZ m) = (-2))) = false →
  (0, ()) = (rordZ m, ())))))))))))) ∧
 ((decide (w64 (trcZ (wM (adjZ m))) = 1)) = false →
 (((decide (w64 (trcZ m) = (-1))) = true →
  (((decide (w64 (trcZ (wM (adjZ m))) = 1)) = true →
   (((decide (w64 (detZ m) = (-1))) = true →
    (4, ()) = (rordZ m, ())) ∧
   ((decide (w64 (detZ m) = (-1))) = false →
   (((decide (w64 (trcZ m) = 0)) = true →
    (((decide (w64 (trcZ (wM (adjZ m))) = 0)) = true →
     (((decide (w64 (detZ m) = (-1))) = true →
      (6, ()) = (rordZ m, ())) ∧
     ((decide (w64 (detZ m) = (-1))) = false →
     (((decide (w64 (trcZ m) = 2)) = true →
      (((decide (w64 (trcZ (wM (adjZ m))) = 2)) = true →
       (((decide (w64 (detZ m) = 1)) = true →
        (6, ()) = (rordZ m, ())) ∧
       ((decide (w64 (detZ m) = 1)) = false →
       (((decide (w64 (trcZ m) = (-2))) = true →
        (((decide (w64 (trcZ (wM (adjZ m))) = 2)) = true →
         (((decide (w64 (detZ m) = (-1))) = true →
          (6, ()) = (rordZ m, ())) ∧
         ((decide (w64 (detZ m) = (-1))) = false →
         (0, ()) = (rordZ m, ())))) ∧
        ((decide (w64 (trcZ (wM (adjZ m))) = 2)) = false →
        (0, ()) = (rordZ m, ())))) ∧
       ((decide (w64 (trcZ m) = (-2))) = false →
       (0, ()) = (rordZ m, ())))))) ∧
      ((decide (w64 (trcZ (wM (adjZ m))) = 2)) = false →
      (((decide (w64 (trcZ m) = (-2))) = true →
       (((decide (w64 (trcZ (wM (adjZ m))) = 2)) = true →
        (((decide (w64 (detZ m) = (-1))) = true →
         (6, ()) = (rordZ m, ())) ∧
        ((decide (w64 (detZ m) = (-1))) = false →
        (0, ()) = (rordZ m, ())))) ∧
       ((decide (w64 (trcZ (wM (adjZ m))) = 2)) = false →
       (0, ()) = (rordZ m, ())))) ∧
      ((decide (w64 (trcZ m) = (-2))) = false →
      (0, ()) = (rordZ m, ())))))) ∧
     ((decide (w64 (trcZ m) = 2)) = false →
     (((decide (w64 (trcZ m) = (-2))) = true →
      (((decide (w64 (trcZ (wM (adjZ m))) = 2)) = true →
       (((decide (w64 (detZ m) = (-1))) = true →
        (6, ()) = (rordZ m, ())) ∧
       ((decide (w64 (detZ m) = (-1))) = false →
       (0, ()) = (rordZ m, ())))) ∧
      ((decide (w64 (trcZ (wM (adjZ m))) = 2)) = false →
      (0, ()) = (rordZ m, ())))) ∧
     ((decide (w64 (trcZ m) = (-2))) = false →
     (0, ()) = (rordZ m, ())))))))) ∧
    ((decide (w64 (trcZ (wM (adjZ m))) = 0)) = false →
    (((decide (w64 (trcZ m) = 2)) = true →
     (((decide (w64 (trcZ (wM (adjZ m))) = 2)) = true →
      (((decide (w64 (detZ m) = 1)) = true →
       (6, ()) = (rordZ m, ())) ∧
      ((decide (w64 (detZ m) = 1)) = false →
      (((decide (w64 (trcZ m) = (-2))) = true →
       (((decide (w64 (trcZ (wM (adjZ m))) = 2)) = true →
        (((decide (w64 (detZ m) = (-1))) = true →
         (6, ()) = (rordZ m, ())) ∧
        ((decide (w64 (detZ m) = (-1))) = false →
        (0, ()) = (rordZ m, ())))) ∧
       ((decide (w64 (trcZ (wM (adjZ m))) = 2)) = false →
       (0, ()) = (rordZ m, ())))) ∧
      ((decide (w64 (trcZ m) = (-2))) = false →
      (0, ()) = (rordZ m, ())))))) ∧
     ((decide (w64 (trcZ (wM (adjZ m))) = 2)) = false →
     (((decide (w64 (trcZ m) = (-2))) = true →
      (((decide (w64 (trcZ (wM (adjZ m))) = 2)) = true →
       (((decide (w64 (detZ m) = (-1))) = true →
        (6, ()) = (rordZ m, ())) ∧
       ((decide (w64 (detZ m) = (-1))) = false →
       (0, ()) = (rordZ m, ())))) ∧
      ((decide (w64 (trcZ (wM (adjZ m))) = 2)) = false →
      (0, ()) = (rordZ m, ())))) ∧
     ((decide (w64 (trcZ m) = (-2))) = false →
     (0, ()) = (rordZ m, ())))))) ∧
    ((decide (w64 (trcZ m) = 2)) = false →
    (((decide (w64 (trcZ m) = (-2))) = true →
     (((decide (w64 (trcZ (wM (adjZ m))) = 2)) = true →
      (((decide (w64 (detZ m) = (-1))) = true →
       (6, ()) = (rordZ m, ())) ∧
      ((decide (w64 (detZ m) = (-1))) = false →
      (0, ()) = (rordZ m, ())))) ∧
     ((decide (w64 (trcZ (wM (adjZ m))) = 2)) = false →
     (0, ()) = (rordZ m, ())))) ∧
    ((decide (w64 (trcZ m) = (-2))) = false →
    (0, ()) = (rordZ m, ())))))))) ∧
   ((decide (w64 (trcZ m) = 0)) = false →
   (((decide (w64 (trcZ m) = 2)) = true →
    (((decide (w64 (trcZ (wM (adjZ m))) = 2)) = true →
     (((decide (w64 (detZ m) = 1)) = true →
      (6, ()) = (rordZ m, ())) ∧
     ((decide (w64 (detZ m) = 1)) = false →
     (((decide (w64 (trcZ m) = (-2))) = true →
      (((decide (w64 (trcZ (wM (adjZ m))) = 2)) = true →
       (((decide (w64 (detZ m) = (-1))) = true →
        (6, ()) = (rordZ m, ())) ∧
       ((decide (w64 (detZ m) = (-1))) = false →
       (0, ()) = (rordZ m, ())))) ∧
      ((decide (w64 (trcZ (wM (adjZ m))) = 2)) = false →
      (0, ()) = (rordZ m, ())))) ∧
     ((decide (w64 (trcZ m) = (-2))) = false →
     (0, ()) = (rordZ m, ())))))) ∧
    ((decide (w64 (trcZ (wM (adjZ m))) = 2)) = false →
    (((decide (w64 (trcZ m) = (-2))) = true →
     (((decide (w64 (trcZ (wM (adjZ m))) = 2)) = true →
      (((decide (w64 (detZ m) = (-1))) = true →
       (6, ()) = (rordZ m, ())) ∧
      ((decide (w64 (detZ m) = (-1))) = false →
      (0, ()) = (rordZ m, ())))) ∧
     ((decide (w64 (trcZ (wM (adjZ m))) = 2)) = false →
     (0, ()) = (rordZ m, ())))) ∧
    ((decide (w64 (trcZ m) = (-2))) = false →
    (0, ()) = (rordZ m, ())))))) ∧
   ((decide (w64 (trcZ m) = 2)) = false →
   (((decide (w64 (trcZ m) = (-2))) = true →
    (((decide (w64 (trcZ (wM (adjZ m))) = 2)) = true →
     (((decide (w64 (detZ m) = (-1))) = true →
      (6, ()) = (rordZ m, ())) ∧
     ((decide (w64 (detZ m) = (-1))) = false →
     (0, ()) = (rordZ m, ())))) ∧
    ((decide (w64 (trcZ (wM (adjZ m))) = 2)) = false →
    (0, ()) = (rordZ m, ())))) ∧
   ((decide (w64 (trcZ m) = (-2))) = false →
   (0, ()) = (rordZ m, ())))))))))) ∧
  ((decide (w64 (trcZ (wM (adjZ m))) = 1)) = false →
  (((decide (w64 (trcZ m) = 0)) = true →
   (((decide (w64 (trcZ (wM (adjZ m))) = 0)) = true →
    (((decide (w64 (detZ m) = (-1))) = true →
     (6, ()) = (rordZ m, ())) ∧
    ((decide (w64 (detZ m) = (-1))) = false →
    (((decide (w64 (trcZ m) = 2)) = true →
     (((decide (w64 (trcZ (wM (adjZ m))) = 2)) = true →
      (((decide (w64 (detZ m) = 1)) = true →
       (6, ()) = (rordZ m, ())) ∧
      ((decide (w64 (detZ m) = 1)) = false →
      (((decide (w64 (trcZ m) = (-2))) = true →
       (((decide (w64 (trcZ (wM (adjZ m))) = 2)) = true →
        (((decide (w64 (detZ m) = (-1))) = true →
         (6, ()) = (rordZ m, ())) ∧
        ((decide (w64 (detZ m) = (-1))) = false →
        (0, ()) = (rordZ m, ())))) ∧
       ((decide (w64 (trcZ (wM (adjZ m))) = 2)) = false →
       (0, ()) = (rordZ m, ())))) ∧
      ((decide (w64 (trcZ m) = (-2))) = false →
      (0, ()) = (rordZ m, ())))))) ∧
     ((decide (w64 (trcZ (wM (adjZ m))) = 2)) = false →
     (((decide (w64 (trcZ m) = (-2))) = true →
      (((decide (w64 (trcZ (wM (adjZ m))) = 2)) = true →
       (((decide (w64 (detZ m) = (-1))) = true →
        (6, ()) = (rordZ m, ())) ∧
       ((decide (w64 (detZ m) = (-1))) = false →
       (0, ()) = (rordZ m, ())))) ∧
      ((decide (w64 (trcZ (wM (adjZ m))) = 2)) = false →
      (0, ()) = (rordZ m, ())))) ∧
     ((decide (w64 (trcZ m) = (-2))) = false →
     (0, ()) = (rordZ m, ())))))) ∧
    ((decide (w64 (trcZ m) = 2)) = false →
    (((decide (w64 (trcZ m) = (-2))) = true →
     (((decide (w64 (trcZ (wM (adjZ m))) = 2)) = true →
      (((decide (w64 (detZ m) = (-1))) = true →
       (6, ()) = (rordZ m, ())) ∧
      ((decide (w64 (detZ m) = (-1))) = false →
      (0, ()) = (rordZ m, ())))) ∧
     ((decide (w64 (trcZ (wM (adjZ m))) = 2)) = false →
     (0, ()) = (rordZ m, ())))) ∧
    ((decide (w64 (trcZ m) = (-2))) = false →
    (0, ()) = (rordZ m, ())))))))) ∧
   ((decide (w64 (trcZ (wM (adjZ m))) = 0)) = false →
   (((decide (w64 (trcZ m) = 2)) = true →
    (((decide (w64 (trcZ (wM (adjZ m))) = 2)) = true →
     (((decide (w64 (detZ m) = 1)) = true →
      (6, ()) = (rordZ m, ())) ∧
     ((decide (w64 (detZ m) = 1)) = false →
     (((decide (w64 (trcZ m) = (-2))) = true →
      (((decide (w64 (trcZ (wM (adjZ m))) = 2)) = true →
       (((decide (w64 (detZ m) = (-1))) = true →
        (6, ()) = (rordZ m, ())) ∧
       ((decide (w64 (detZ m) = (-1))) = false →
       (0, ()) = (rordZ m, ())))) ∧
      ((decide (w64 (trcZ (wM (adjZ m))) = 2)) = false →
      (0, ()) = (rordZ m, ())))) ∧
     ((decide (w64 (trcZ m) = (-2))) = false →
     (0, ()) = (rordZ m, ())))))) ∧
    ((decide (w64 (trcZ (wM (adjZ m))) = 2)) = false →
    (((decide (w64 (trcZ m) = (-2))) = true →
     (((decide (w64 (trcZ (wM (adjZ m))) = 2)) = true →
      (((decide (w64 (detZ m) = (-1))) = true →
       (6, ()) = (rordZ m, ())) ∧
      ((decide (w64 (detZ m) = (-1))) = false →
      (0, ()) = (rordZ m, ())))) ∧
     ((decide (w64 (trcZ (wM (adjZ m))) = 2)) = false →
     (0, ()) = (rordZ m, ())))) ∧
    ((decide (w64 (trcZ m) = (-2))) = false →
    (0, ()) = (rordZ m, ())))))) ∧
   ((decide (w64 (trcZ m) = 2)) = false →
   (((decide (w64 (trcZ m) = (-2))) = true →
    (((decide (w64 (trcZ (wM (adjZ m))) = 2)) = true →
     (((decide (w64 (detZ m) = (-1))) = true →
      (6, ()) = (rordZ m, ())) ∧
     ((decide (w64 (detZ m) = (-1))) = false →
     (0, ()) = (rordZ m, ())))) ∧
    ((decide (w64 (trcZ (wM (adjZ m))) = 2)) = false →
    (0, ()) = (rordZ m, ())))) ∧
   ((decide (w64 (trcZ m) = (-2))) = false →
   (0, ()) = (rordZ m, ())))))))) ∧
  ((decide (w64 (trcZ m) = 0)) = false →
  (((decide (w64 (trcZ m) = 2)) = true →
   (((decide (w64 (trcZ (wM (adjZ m))) = 2)) = true →
    (((decide (w64 (detZ m) = 1)) = true →
     (6, ()) = (rordZ m, ())) ∧
    ((decide (w64 (detZ m) = 1)) = false →
    (((decide (w64 (trcZ m) = (-2))) = true →
     (((decide (w64 (trcZ (wM (adjZ m))) = 2)) = true →
      (((decide (w64 (detZ m) = (-1))) = true →
       (6, ()) = (rordZ m, ())) ∧
      ((decide (w64 (detZ m) = (-1))) = false →
      (0, ()) = (rordZ m, ())))) ∧
     ((decide (w64 (trcZ (wM (adjZ m))) = 2)) = false →
     (0, ()) = (rordZ m, ())))) ∧
    ((decide (w64 (trcZ m) = (-2))) = false →
    (0, ()) = (rordZ m, ())))))) ∧
   ((decide (w64 (trcZ (wM (adjZ m))) = 2)) = false →
   (((decide (w64 (trcZ m) = (-2))) = true →
    (((decide (w64 (trcZ (wM (adjZ m))) = 2)) = true →
     (((decide (w64 (detZ m) = (-1))) = true →
      (6, ()) = (rordZ m, ())) ∧
     ((decide (w64 (detZ m) = (-1))) = false →
     (0, ()) = (rordZ m, ())))) ∧
    ((decide (w64 (trcZ (wM (adjZ m))) = 2)) = false →
    (0, ()) = (rordZ m, ())))) ∧
   ((decide (w64 (trcZ m) = (-2))) = false →
   (0, ()) = (rordZ m, ())))))) ∧
  ((decide (w64 (trcZ m) = 2)) = false →
  (((decide (w64 (trcZ m) = (-2))) = true →
   (((decide (w64 (trcZ (wM (adjZ m))) = 2)) = true →
    (((decide (w64 (detZ m) = (-1))) = true →
     (6, ()) = (rordZ m, ())) ∧
    ((decide (w64 (detZ m) = (-1))) = false →
    (0, ()) = (rordZ m, ())))) ∧
   ((decide (w64 (trcZ (wM (adjZ m))) = 2)) = false →
   (0, ()) = (rordZ m, ())))) ∧
  ((decide (w64 (trcZ m) = (-2))) = false →
  (0, ()) = (rordZ m, ())))))))))) ∧
 ((decide (w64 (trcZ m) = (-1))) = false →
 (((decide (w64 (trcZ m) = 0)) = true →
  (((decide (w64 (trcZ (wM (adjZ m))) = 0)) = true →
   (((decide (w64 (detZ m) = (-1))) = true →
    (6, ()) = (rordZ m, ())) ∧
   ((decide (w64 (detZ m) = (-1))) = false →
   (((decide (w64 (trcZ m) = 2)) = true →
    (((decide (w64 (trcZ (wM (adjZ m))) = 2)) = true →
     (((decide (w64 (detZ m) = 1)) = true →
      (6, ()) = (rordZ m, ())) ∧
     ((decide (w64 (detZ m) = 1)) = false →
     (((decide (w64 (trcZ m) = (-2))) = true →
      (((decide (w64 (trcZ (wM (adjZ m))) = 2)) = true →
       (((decide (w64 (detZ m) = (-1))) = true →
        (6, ()) = (rordZ m, ())) ∧
       ((decide (w64 (detZ m) = (-1))) = false →
       (0, ()) = (rordZ m, ())))) ∧
      ((decide (w64 (trcZ (wM (adjZ m))) = 2)) = false →
      (0, ()) = (rordZ m, ())))) ∧
     ((decide (w64 (trcZ m) = (-2))) = false →
     (0, ()) = (rordZ m, ())))))) ∧
    ((decide (w64 (trcZ (wM (adjZ m))) = 2)) = false →
    (((decide (w64 (trcZ m) = (-2))) = true →
     (((decide (w64 (trcZ (wM (adjZ m))) = 2)) = true →
      (((decide (w64 (detZ m) = (-1))) = true →
       (6, ()) = (rordZ m, ())) ∧
      ((decide (w64 (detZ m) = (-1))) = false →
      (0, ()) = (rordZ m, ())))) ∧
     ((decide (w64 (trcZ (wM (adjZ m))) = 2)) = false →
     (0, ()) = (rordZ m, ())))) ∧
    ((decide (w64 (trcZ m) = (-2))) = false →
    (0, ()) = (rordZ m, ())))))) ∧
   ((decide (w64 (trcZ m) = 2)) = false →
   (((decide (w64 (trcZ m) = (-2))) = true →
    (((decide (w64 (trcZ (wM (adjZ m))) = 2)) = true →
     (((decide (w64 (detZ m) = (-1))) = true →
      (6, ()) = (rordZ m, ())) ∧
     ((decide (w64 (detZ m) = (-1))) = false →
     (0, ()) = (rordZ m, ())))) ∧
    ((decide (w64 (trcZ (wM (adjZ m))) = 2)) = false →
    (0, ()) = (rordZ m, ())))) ∧
   ((decide (w64 (trcZ m) = (-2))) = false →
   (0, ()) = (rordZ m, ())))))))) ∧
  ((decide (w64 (trcZ (wM (adjZ m))) = 0)) = false →
  (((decide (w64 (trcZ m) = 2)) = true →
   (((decide (w64 (trcZ (wM (adjZ m))) = 2)) = true →
    (((decide (w64 (detZ m) = 1)) = true →
     (6, ()) = (rordZ m, ())) ∧
    ((decide (w64 (detZ m) = 1)) = false →
    (((decide (w64 (trcZ m) = (-2))) = true →
     (((decide (w64 (trcZ (wM (adjZ m))) = 2)) = true →
      (((decide (w64 (detZ m) = (-1))) = true →
       (6, ()) = (rordZ m, ())) ∧
      ((decide (w64 (detZ m) = (-1))) = false →
      (0, ()) = (rordZ m, ())))) ∧
     ((decide (w64 (trcZ (wM (adjZ m))) = 2)) = false →
     (0, ()) = (rordZ m, ())))) ∧
    ((decide (w64 (trcZ m) = (-2))) = false →
    (0, ()) = (rordZ m, ())))))) ∧
   ((decide (w64 (trcZ (wM (adjZ m))) = 2)) = false →
   (((decide (w64 (trcZ m) = (-2))) = true →
    (((decide (w64 (trcZ (wM (adjZ m))) = 2)) = true →
     (((decide (w64 (detZ m) = (-1))) = true →
      (6, ()) = (rordZ m, ())) ∧
     ((decide (w64 (detZ m) = (-1))) = false →
     (0, ()) = (rordZ m, ())))) ∧
    ((decide (w64 (trcZ (wM (adjZ m))) = 2)) = false →
    (0, ()) = (rordZ m, ())))) ∧
   ((decide (w64 (trcZ m) = (-2))) = false →
   (0, ()) = (rordZ m, ())))))) ∧
  ((decide (w64 (trcZ m) = 2)) = false →
  (((decide (w64 (trcZ m) = (-2))) = true →
   (((decide (w64 (trcZ (wM (adjZ m))) = 2)) = true →
    (((decide (w64 (detZ m) = (-1))) = true →
     (6, ()) = (rordZ m, ())) ∧
    ((decide (w64 (detZ m) = (-1))) = false →
    (0, ()) = (rordZ m, ())))) ∧
   ((decide (w64 (trcZ (wM (adjZ m))) = 2)) = false →
   (0, ()) = (rordZ m, ())))) ∧
  ((decide (w64 (trcZ m) = (-2))) = false →
  (0, ()) = (rordZ m, ())))))))) ∧
 ((decide (w64 (trcZ m) = 0)) = false →
 (((decide (w64 (trcZ m) = 2)) = true →
  (((decide (w64 (trcZ (wM (adjZ m))) = 2)) = true →
   (((decide (w64 (detZ m) = 1)) = true →
    (6, ()) = (rordZ m, ())) ∧
   ((decide (w64 (detZ m) = 1)) = false →
   (((decide (w64 (trcZ m) = (-2))) = true →
    (((decide (w64 (trcZ (wM (adjZ m))) = 2)) = true →
     (((decide (w64 (detZ m) = (-1))) = true →
      (6, ()) = (rordZ m, ())) ∧
     ((decide (w64 (detZ m) = (-1))) = false →
     (0, ()) = (rordZ m, ())))) ∧
    ((decide (w64 (trcZ (wM (adjZ m))) = 2)) = false →
    (0, ()) = (rordZ m, ())))) ∧
   ((decide (w64 (trcZ m) = (-2))) = false →
   (0, ()) = (rordZ m, ())))))) ∧
  ((decide (w64 (trcZ (wM (adjZ m))) = 2)) = false →
  (((decide (w64 (trcZ m) = (-2))) = true →
   (((decide (w64 (trcZ (wM (adjZ m))) = 2)) = true →
    (((decide (w64 (detZ m) = (-1))) = true →
     (6, ()) = (rordZ m, ())) ∧
    ((decide (w64 (detZ m) = (-1))) = false →
    (0, ()) = (rordZ m, ())))) ∧
   ((decide (w64 (trcZ (wM (adjZ m))) = 2)) = false →
   (0, ()) = (rordZ m, ())))) ∧
  ((decide (w64 (trcZ m) = (-2))) = false →
  (0, ()) = (rordZ m, ())))))) ∧
 ((decide (w64 (trcZ m) = 2)) = false →
 (((decide (w64 (trcZ m) = (-2))) = true →
  (((decide (w64 (trcZ (wM (adjZ m))) = 2)) = true →
   (((decide (w64 (detZ m) = (-1))) = true →
    (6, ()) = (rordZ m, ())) ∧
   ((decide (w64 (detZ m) = (-1))) = false →
   (0, ()) = (rordZ m, ())))) ∧
  ((decide (w64 (trcZ (wM (adjZ m))) = 2)) = false →
  (0, ()) = (rordZ m, ())))) ∧
 ((decide (w64 (trcZ m) = (-2))) = false →
 (0, ()) = (rordZ m, ())))))))))))) ∧
((decide (w64 (trcZ m) = 1)) = false →
(((decide (w64 (trcZ m) = (-1))) = true →
 (((decide (w64 (trcZ (wM (adjZ m))) = 1)) = true →
  (((decide (w64 (detZ m) = (-1))) = true →
   (4, ()) = (rordZ m, ())) ∧
  ((decide (w64 (detZ m) = (-1))) = false →
  (((decide (w64 (trcZ m) = 0)) = true →
   (((decide (w64 (trcZ (wM (adjZ m))) = 0)) = true →
    (((decide (w64 (detZ m) = (-1))) = true →
     (6, ()) = (rordZ m, ())) ∧
    ((decide (w64 (detZ m) = (-1))) = false →
    (((decide (w64 (trcZ m) = 2)) = true →
     (((decide (w64 (trcZ (wM (adjZ m))) = 2)) = true →
      (((decide (w64 (detZ m) = 1)) = true →
       (6, ()) = (rordZ m, ())) ∧
      ((decide (w64 (detZ m) = 1)) = false →
      (((decide (w64 (trcZ m) = (-2))) = true →
       (((decide (w64 (trcZ (wM (adjZ m))) = 2)) = true →
        (((decide (w64 (detZ m) = (-1))) = true →
         (6, ()) = (rordZ m, ())) ∧
        ((decide (w64 (detZ m) = (-1))) = false →
        (0, ()) = (rordZ m, ())))) ∧
       ((decide (w64 (trcZ (wM (adjZ m))) = 2)) = false →
       (0, ()) = (rordZ m, ())))) ∧
      ((decide (w64 (trcZ m) = (-2))) = false →
      (0, ()) = (rordZ m, ())))))) ∧
     ((decide (w64 (trcZ (wM (adjZ m))) = 2)) = false →
     (((decide (w64 (trcZ m) = (-2))) = true →
      (((decide (w64 (trcZ (wM (adjZ m))) = 2)) = true →
       (((decide (w64 (detZ m) = (-1))) = true →
        (6, ()) = (rordZ m, ())) ∧
       ((decide (w64 (detZ m) = (-1))) = false →
       (0, ()) = (rordZ m, ())))) ∧
      ((decide (w64 (trcZ (wM (adjZ m))) = 2)) = false →
      (0, ()) = (rordZ m, ())))) ∧
     ((decide (w64 (trcZ m) = (-2))) = false →
     (0, ()) = (rordZ m, ())))))) ∧
    ((decide (w64 (trcZ m) = 2)) = false →
    (((decide (w64 (trcZ m) = (-2))) = true →
     (((decide (w64 (trcZ (wM (adjZ m))) = 2)) = true →
      (((decide (w64 (detZ m) = (-1))) = true →
       (6, ()) = (rordZ m, ())) ∧
      ((decide (w64 (detZ m) = (-1))) = false →
      (0, ()) = (rordZ m, ())))) ∧
     ((decide (w64 (trcZ (wM (adjZ m))) = 2)) = false →
     (0, ()) = (rordZ m, ())))) ∧
    ((decide (w64 (trcZ m) = (-2))) = false →
    (0, ()) = (rordZ m, ())))))))) ∧
   ((decide (w64 (trcZ (wM (adjZ m))) = 0)) = false →
   (((decide (w64 (trcZ m) = 2)) = true →
    (((decide (w64 (trcZ (wM (adjZ m))) = 2)) = true →
     (((decide (w64 (detZ m) = 1)) = true →
      (6, ()) = (rordZ m, ())) ∧
     ((decide (w64 (detZ m) = 1)) = false →
     (((decide (w64 (trcZ m) = (-2))) = true →
      (((decide (w64 (trcZ (wM (adjZ m))) = 2)) = true →
       (((decide (w64 (detZ m) = (-1))) = true →
        (6, ()) = (rordZ m, ())) ∧
       ((decide (w64 (detZ m) = (-1))) = false →
       (0, ()) = (rordZ m, ())))) ∧
      ((decide (w64 (trcZ (wM (adjZ m))) = 2)) = false →
      (0, ()) = (rordZ m, ())))) ∧
     ((decide (w64 (trcZ m) = (-2))) = false →
     (0, ()) = (rordZ m, ())))))) ∧
    ((decide (w64 (trcZ (wM (adjZ m))) = 2)) = false →
    (((decide (w64 (trcZ m) = (-2))) = true →
     (((decide (w64 (trcZ (wM (adjZ m))) = 2)) = true →
      (((decide (w64 (detZ m) = (-1))) = true →
       (6, ()) = (rordZ m, ())) ∧
      ((decide (w64 (detZ m) = (-1))) = false →
      (0, ()) = (rordZ m, ())))) ∧
     ((decide (w64 (trcZ (wM (adjZ m))) = 2)) = false →
     (0, ()) = (rordZ m, ())))) ∧
    ((decide (w64 (trcZ m) = (-2))) = false →
    (0, ()) = (rordZ m, ())))))) ∧
   ((decide (w64 (trcZ m) = 2)) = false →
   (((decide (w64 (trcZ m) = (-2))) = true →
    (((decide (w64 (trcZ (wM (adjZ m))) = 2)) = true →
     (((decide (w64 (detZ m) = (-1))) = true →
      (6, ()) = (rordZ m, ())) ∧
     ((decide (w64 (detZ m) = (-1))) = false →
     (0, ()) = (rordZ m, ())))) ∧
    ((decide (w64 (trcZ (wM (adjZ m))) = 2)) = false →
    (0, ()) = (rordZ m, ())))) ∧
   ((decide (w64 (trcZ m) = (-2))) = false →
   (0, ()) = (rordZ m, ())))))))) ∧
  ((decide (w64 (trcZ m) = 0)) = false →
  (((decide (w64 (trcZ m) = 2)) = true →
   (((decide (w64 (trcZ (wM (adjZ m))) = 2)) = true →
    (((decide (w64 (detZ m) = 1)) = true →
     (6, ()) = (rordZ m, ())) ∧
    ((decide (w64 (detZ m) = 1)) = false →
    (((decide (w64 (trcZ m) = (-2))) = true →
     (((decide (w64 (trcZ (wM (adjZ m))) = 2)) = true →
      (((decide (w64 (detZ m) = (-1))) = true →
       (6, ()) = (rordZ m, ())) ∧
      ((decide (w64 (detZ m) = (-1))) = false →
      (0, ()) = (rordZ m, ())))) ∧
     ((decide (w64 (trcZ (wM (adjZ m))) = 2)) = false →
     (0, ()) = (rordZ m, ())))) ∧
    ((decide (w64 (trcZ m) = (-2))) = false →
    (0, ()) = (rordZ m, ())))))) ∧
   ((decide (w64 (trcZ (wM (adjZ m))) = 2)) = false →
   (((decide (w64 (trcZ m) = (-2))) = true →
    (((decide (w64 (trcZ (wM (adjZ m))) = 2)) = true →
     (((decide (w64 (detZ m) = (-1))) = true →
      (6, ()) = (rordZ m, ())) ∧
     ((decide (w64 (detZ m) = (-1))) = false →
     (0, ()) = (rordZ m, ())))) ∧
    ((decide (w64 (trcZ (wM (adjZ m))) = 2)) = false →
    (0, ()) = (rordZ m, ())))) ∧
   ((decide (w64 (trcZ m) = (-2))) = false →
   (0, ()) = (rordZ m, ())))))) ∧
  ((decide (w64 (trcZ m) = 2)) = false →
  (((decide (w64 (trcZ m) = (-2))) = true →
   (((decide (w64 (trcZ (wM (adjZ m))) = 2)) = true →
    (((decide (w64 (detZ m) = (-1))) = true →
     (6, ()) = (rordZ m, ())) ∧
    ((decide (w64 (detZ m) = (-1))) = false →
    (0, ()) = (rordZ m, ())))) ∧
   ((decide (w64 (trcZ (wM (adjZ m))) = 2)) = false →
   (0, ()) = (rordZ m, ())))) ∧
  ((decide (w64 (trcZ m) = (-2))) = false →
  (0, ()) = (rordZ m, ())))))))))) ∧
 ((decide (w64 (trcZ (wM (adjZ m))) = 1)) = false →
 (((decide (w64 (trcZ m) = 0)) = true →
  (((decide (w64 (trcZ (wM (adjZ m))) = 0)) = true →
   (((decide (w64 (detZ m) = (-1))) = true →
    (6, ()) = (rordZ m, ())) ∧
   ((decide (w64 (detZ m) = (-1))) = false →
   (((decide (w64 (trcZ m) = 2)) = true →
    (((decide (w64 (trcZ (wM (adjZ m))) = 2)) = true →
     (((decide (w64 (detZ m) = 1)) = true →
      (6, ()) = (rordZ m, ())) ∧
     ((decide (w64 (detZ m) = 1)) = false →
     (((decide (w64 (trcZ m) = (-2))) = true →
      (((decide (w64 (trcZ (wM (adjZ m))) = 2)) = true →
       (((decide (w64 (detZ m) = (-1))) = true →
        (6, ()) = (rordZ m, ())) ∧
       ((decide (w64 (detZ m) = (-1))) = false →
       (0, ()) = (rordZ m, ())))) ∧
      ((decide (w64 (trcZ (wM (adjZ m))) = 2)) = false →
      (0, ()) = (rordZ m, ())))) ∧
     ((decide (w64 (trcZ m) = (-2))) = false →
     (0, ()) = (rordZ m, ())))))) ∧
    ((decide (w64 (trcZ (wM (adjZ m))) = 2)) = false →
    (((decide (w64 (trcZ m) = (-2))) = true →
     (((decide (w64 (trcZ (wM (adjZ m))) = 2)) = true →
      (((decide (w64 (detZ m) = (-1))) = true →
       (6, ()) = (rordZ m, ())) ∧
      ((decide (w64 (detZ m) = (-1))) = false →
      (0, ()) = (rordZ m, ())))) ∧
     ((decide (w64 (trcZ (wM (adjZ m))) = 2)) = false →
     (0, ()) = (rordZ m, ())))) ∧
    ((decide (w64 (trcZ m) = (-2))) = false →
    (0, ()) = (rordZ m, ())))))) ∧
   ((decide (w64 (trcZ m) = 2)) = false →
   (((decide (w64 (trcZ m) = (-2))) = true →
    (((decide (w64 (trcZ (wM (adjZ m))) = 2)) = true →
     (((decide (w64 (detZ m) = (-1))) = true →
      (6, ()) = (rordZ m, ())) ∧
     ((decide (w64 (detZ m) = (-1))) = false →
     (0, ()) = (rordZ m, ())))) ∧
    ((decide (w64 (trcZ (wM (adjZ m))) = 2)) = false →
    (0, ()) = (rordZ m, ())))) ∧
   ((decide (w64 (trcZ m) = (-2))) = false →
   (0, ()) = (rordZ m, ())))))))) ∧
  ((decide (w64 (trcZ (wM (adjZ m))) = 0)) = false →
  (((decide (w64 (trcZ m) = 2)) = true →
   (((decide (w64 (trcZ (wM (adjZ m))) = 2)) = true →
    (((decide (w64 (detZ m) = 1)) = true →
     (6, ()) = (rordZ m, ())) ∧
    ((decide (w64 (detZ m) = 1)) = false →
    (((decide (w64 (trcZ m) = (-2))) = true →
     (((decide (w64 (trcZ (wM (adjZ m))) = 2)) = true →
      (((decide (w64 (detZ m) = (-1))) = true →
       (6, ()) = (rordZ m, ())) ∧
      ((decide (w64 (detZ m) = (-1))) = false →
      (0, ()) = (rordZ m, ())))) ∧
     ((decide (w64 (trcZ (wM (adjZ m))) = 2)) = false →
     (0, ()) = (rordZ m, ())))) ∧
    ((decide (w64 (trcZ m) = (-2))) = false →
    (0, ()) = (rordZ m, ())))))) ∧
   ((decide (w64 (trcZ (wM (adjZ m))) = 2)) = false →
   (((decide (w64 (trcZ m) = (-2))) = true →
    (((decide (w64 (trcZ (wM (adjZ m))) = 2)) = true →
     (((decide (w64 (detZ m) = (-1))) = true →
      (6, ()) = (rordZ m, ())) ∧
     ((decide (w64 (detZ m) = (-1))) = false →
     (0, ()) = (rordZ m, ())))) ∧
    ((decide (w64 (trcZ (wM (adjZ m))) = 2)) = false →
    (0, ()) = (rordZ m, ())))) ∧
   ((decide (w64 (trcZ m) = (-2))) = false →
   (0, ()) = (rordZ m, ())))))) ∧
  ((decide (w64 (trcZ m) = 2)) = false →
  (((decide (w64 (trcZ m) = (-2))) = true →
   (((decide (w64 (trcZ (wM (adjZ m))) = 2)) = true →
    (((decide (w64 (detZ m) = (-1))) = true →
     (6, ()) = (rordZ m, ())) ∧
    ((decide (w64 (detZ m) = (-1))) = false →
    (0, ()) = (rordZ m, ())))) ∧
   ((decide (w64 (trcZ (wM (adjZ m))) = 2)) = false →
   (0, ()) = (rordZ m, ())))) ∧
  ((decide (w64 (trcZ m) = (-2))) = false →
  (0, ()) = (rordZ m, ())))))))) ∧
 ((decide (w64 (trcZ m) = 0)) = false →
 (((decide (w64 (trcZ m) = 2)) = true →
  (((decide (w64 (trcZ (wM (adjZ m))) = 2)) = true →
   (((decide (w64 (detZ m) = 1)) = true →
    (6, ()) = (rordZ m, ())) ∧
   ((decide (w64 (detZ m) = 1)) = false →
   (((decide (w64 (trcZ m) = (-2))) = true →
    (((decide (w64 (trcZ (wM (adjZ m))) = 2)) = true →
     (((decide (w64 (detZ m) = (-1))) = true →
      (6, ()) = (rordZ m, ())) ∧
     ((decide (w64 (detZ m) = (-1))) = false →
     (0, ()) = (rordZ m, ())))) ∧
    ((decide (w64 (trcZ (wM (adjZ m))) = 2)) = false →
    (0, ()) = (rordZ m, ())))) ∧
   ((decide (w64 (trcZ m) = (-2))) = false →
   (0, ()) = (rordZ m, ())))))) ∧
  ((decide (w64 (trcZ (wM (adjZ m))) = 2)) = false →
  (((decide (w64 (trcZ m) = (-2))) = true →
   (((decide (w64 (trcZ (wM (adjZ m))) = 2)) = true →
    (((decide (w64 (detZ m) = (-1))) = true →
     (6, ()) = (rordZ m, ())) ∧
    ((decide (w64 (detZ m) = (-1))) = false →
    (0, ()) = (rordZ m, ())))) ∧
   ((decide (w64 (trcZ (wM (adjZ m))) = 2)) = false →
   (0, ()) = (rordZ m, ())))) ∧
  ((decide (w64 (trcZ m) = (-2))) = false →
  (0, ()) = (rordZ m, ())))))) ∧
 ((decide (w64 (trcZ m) = 2)) = false →
 (((decide (w64 (trcZ m) = (-2))) = true →
  (((decide (w64 (trcZ (wM (adjZ m))) = 2)) = true →
   (((decide (w64 (detZ m) = (-1))) = true →
    (6, ()) = (rordZ m, ())) ∧
   ((decide (w64 (detZ m) = (-1))) = false →
   (0, ()) = (rordZ m, ())))) ∧
  ((decide (w64 (trcZ (wM (adjZ m))) = 2)) = false →
  (0, ()) = (rordZ m, ())))) ∧
 ((decide (w64 (trcZ m) = (-2))) = false →
 (0, ()) = (rordZ m, ())))))))))) ∧
((decide (w64 (trcZ m) = (-1))) = false →
(((decide (w64 (trcZ m) = 0)) = true →
 (((decide (w64 (trcZ (wM (adjZ m))) = 0)) = true →
  (((decide (w64 (detZ m) = (-1))) = true →
   (6, ()) = (rordZ m, ())) ∧
  ((decide (w64 (detZ m) = (-1))) = false →
  (((decide (w64 (trcZ m) = 2)) = true →
   (((decide (w64 (trcZ (wM (adjZ m))) = 2)) = true →
    (((decide (w64 (detZ m) = 1)) = true →
     (6, ()) = (rordZ m, ())) ∧
    ((decide (w64 (detZ m) = 1)) = false →
    (((decide (w64 (trcZ m) = (-2))) = true →
     (((decide (w64 (trcZ (wM (adjZ m))) = 2)) = true →
      (((decide (w64 (detZ m) = (-1))) = true →
       (6, ()) = (rordZ m, ())) ∧
      ((decide (w64 (detZ m) = (-1))) = false →
      (0, ()) = (rordZ m, ())))) ∧
     ((decide (w64 (trcZ (wM (adjZ m))) = 2)) = false →
     (0, ()) = (rordZ m, ())))) ∧
    ((decide (w64 (trcZ m) = (-2))) = false →
    (0, ()) = (rordZ m, ())))))) ∧
   ((decide (w64 (trcZ (wM (adjZ m))) = 2)) = false →
   (((decide (w64 (trcZ m) = (-2))) = true →
    (((decide (w64 (trcZ (wM (adjZ m))) = 2)) = true →
     (((decide (w64 (detZ m) = (-1))) = true →
      (6, ()) = (rordZ m, ())) ∧
     ((decide (w64 (detZ m) = (-1))) = false →
     (0, ()) = (rordZ m, ())))) ∧
    ((decide (w64 (trcZ (wM (adjZ m))) = 2)) = false →
    (0, ()) = (rordZ m, ())))) ∧
   ((decide (w64 (trcZ m) = (-2))) = false →
   (0, ()) = (rordZ m, ())))))) ∧
  ((decide (w64 (trcZ m) = 2)) = false →
  (((decide (w64 (trcZ m) = (-2))) = true →
   (((decide (w64 (trcZ (wM (adjZ m))) = 2)) = true →
    (((decide (w64 (detZ m) = (-1))) = true →
     (6, ()) = (rordZ m, ())) ∧
    ((decide (w64 (detZ m) = (-1))) = false →
    (0, ()) = (rordZ m, ())))) ∧
   ((decide (w64 (trcZ (wM (adjZ m))) = 2)) = false →
   (0, ()) = (rordZ m, ())))) ∧
  ((decide (w64 (trcZ m) = (-2))) = false →
  (0, ()) = (rordZ m, ())))))))) ∧
 ((decide (w64 (trcZ (wM (adjZ m))) = 0)) = false →
 (((decide (w64 (trcZ m) = 2)) = true →
  (((decide (w64 (trcZ (wM (adjZ m))) = 2)) = true →
   (((decide (w64 (detZ m) = 1)) = true →
    (6, ()) = (rordZ m, ())) ∧
   ((decide (w64 (detZ m) = 1)) = false →
   (((decide (w64 (trcZ m) = (-2))) = true →
    (((decide (w64 (trcZ (wM (adjZ m))) = 2)) = true →
     (((decide (w64 (detZ m) = (-1))) = true →
      (6, ()) = (rordZ m, ())) ∧
     ((decide (w64 (detZ m) = (-1))) = false →
     (0, ()) = (rordZ m, ())))) ∧
    ((decide (w64 (trcZ (wM (adjZ m))) = 2)) = false →
    (0, ()) = (rordZ m, ())))) ∧
   ((decide (w64 (trcZ m) = (-2))) = false →
   (0, ()) = (rordZ m, ())))))) ∧
  ((decide (w64 (trcZ (wM (adjZ m))) = 2)) = false →
  (((decide (w64 (trcZ m) = (-2))) = true →
   (((decide (w64 (trcZ (wM (adjZ m))) = 2)) = true →
    (((decide (w64 (detZ m) = (-1))) = true →
     (6, ()) = (rordZ m, ())) ∧
    ((decide (w64 (detZ m) = (-1))) = false →
    (0, ()) = (rordZ m, ())))) ∧
   ((decide (w64 (trcZ (wM (adjZ m))) = 2)) = false →
   (0, ()) = (rordZ m, ())))) ∧
  ((decide (w64 (trcZ m) = (-2))) = false →
  (0, ()) = (rordZ m, ())))))) ∧
 ((decide (w64 (trcZ m) = 2)) = false →
 (((decide (w64 (trcZ m) = (-2))) = true →
  (((decide (w64 (trcZ (wM (adjZ m))) = 2)) = true →
   (((decide (w64 (detZ m) = (-1))) = true →
    (6, ()) = (rordZ m, ())) ∧
   ((decide (w64 (detZ m) = (-1))) = false →
   (0, ()) = (rordZ m, ())))) ∧
  ((decide (w64 (trcZ (wM (adjZ m))) = 2)) = false →
  (0, ()) = (rordZ m, ())))) ∧
 ((decide (w64 (trcZ m) = (-2))) = false →
 (0, ()) = (rordZ m, ())))))))) ∧
((decide (w64 (trcZ m) = 0)) = false →
(((decide (w64 (trcZ m) = 2)) = true →
 (((decide (w64 (trcZ (wM (adjZ m))) = 2)) = true →
  (((decide (w64 (detZ m) = 1)) = true →
   (6, ()) = (rordZ m, ())) ∧
  ((decide (w64 (detZ m) = 1)) = false →
  (((decide (w64 (trcZ m) = (-2))) = true →
   (((decide (w64 (trcZ (wM (adjZ m))) = 2)) = true →
    (((decide (w64 (detZ m) = (-1))) = true →
     (6, ()) = (rordZ m, ())) ∧
    ((decide (w64 (detZ m) = (-1))) = false →
    (0, ()) = (rordZ m, ())))) ∧
   ((decide (w64 (trcZ (wM (adjZ m))) = 2)) = false →
   (0, ()) = (rordZ m, ())))) ∧
  ((decide (w64 (trcZ m) = (-2))) = false →
  (0, ()) = (rordZ m, ())))))) ∧
 ((decide (w64 (trcZ (wM (adjZ m))) = 2)) = false →
 (((decide (w64 (trcZ m) = (-2))) = true →
  (((decide (w64 (trcZ (wM (adjZ m))) = 2)) = true →
   (((decide (w64 (detZ m) = (-1))) = true →
    (6, ()) = (rordZ m, ())) ∧
   ((decide (w64 (detZ m) = (-1))) = false →
   (0, ()) = (rordZ m, ())))) ∧
  ((decide (w64 (trcZ (wM (adjZ m))) = 2)) = false →
  (0, ()) = (rordZ m, ())))) ∧
 ((decide (w64 (trcZ m) = (-2))) = false →
 (0, ()) = (rordZ m, ())))))) ∧
((decide (w64 (trcZ m) = 2)) = false →
(((decide (w64 (trcZ m) = (-2))) = true →
 (((decide (w64 (trcZ (wM (adjZ m))) = 2)) = true →
  (((decide (w64 (detZ m) = (-1))) = true →
   (6, ()) = (rordZ m, ())) ∧
  ((decide (w64 (detZ m) = (-1))) = false →
  (0, ()) = (rordZ m, ())))) ∧
 ((decide (w64 (trcZ (wM (adjZ m))) = 2)) = false →
 (0, ()) = (rordZ m, ())))) ∧
((decide (w64 (trcZ m) = (-2))) = false →
(0, ()) = (rordZ m, ()))))))))))))))))))))))))
theorem r_rOrder (x : HL C_rOrder.args) : runs (env [(35, C_rTrace), (36, C_rAdjugate), (34, C_rDet), (31, C_One), (15, C_rMul)] []) 400 47 C_rOrder x = T_rOrder x.1 := by kernel_rfl
theorem p_rOrder (m : M3) (h0 : (Sh.agg .mat).okA m) : T_rOrder m := by
  have e1 : eqM m (oneZ 1) = (decide (m.xx = (oneZ 1).xx) && (decide (m.xy = (oneZ 1).xy) && (decide (m.xz = (oneZ 1).xz) && (decide (m.yx = (oneZ 1).yx) && (decide (m.yy = (oneZ 1).yy) && (decide (m.yz = (oneZ 1).yz) && (decide (m.zx = (oneZ 1).zx) && (decide (m.zy = (oneZ 1).zy) && (decide (m.zz = (oneZ 1).zz) && true))))))))) := rfl
  have e2 : eqM (wM (mulZ m m)) (oneZ 1) = (decide ((wM (mulZ m m)).xx = (oneZ 1).xx) && (decide ((wM (mulZ m m)).xy = (oneZ 1).xy) && (decide ((wM (mulZ m m)).xz = (oneZ 1).xz) && (decide ((wM (mulZ m m)).yx = (oneZ 1).yx) && (decide ((wM (mulZ m m)).yy = (oneZ 1).yy) && (decide ((wM (mulZ m m)).yz = (oneZ 1).yz) && (decide ((wM (mulZ m m)).zx = (oneZ 1).zx) && (decide ((wM (mulZ m m)).zy = (oneZ 1).zy) && (decide ((wM (mulZ m m)).zz = (oneZ 1).zz) && true))))))))) := rfl
  unfold T_rOrder rordZ
  rw [← e1, ← e2]
  generalize eqM m (oneZ 1) = b1
  generalize eqM (wM (mulZ m m)) (oneZ 1) = b2
  generalize w64 (trcZ m) = t
  generalize w64 (trcZ (wM (adjZ m))) = s
  generalize w64 (detZ m) = d
  refine ⟨trivial, trivial, trivial, trivial, trivial, fun h => by rw [if_pos h], fun h => ⟨trivial, trivial, fun h' => by rw [if_neg (by rw [h]; decide), if_pos h'], fun h' => ?_⟩⟩
  rw [if_neg (by rw [h]; decide), if_neg (by rw [h']; decide)]
  unfold rordC
  by_cases t0 : t = 0
  · subst t0; simp (config := {decide := true}); (repeat' (first | apply And.intro | intro _)) <;> simp_all
  by_cases t1 : t = 1
  · subst t1; simp (config := {decide := true}); (repeat' (first | apply And.intro | intro _)) <;> simp_all
  by_cases t2 : t = -1
  · subst t2; simp (config := {decide := true}); (repeat' (first | apply And.intro | intro _)) <;> simp_all
  by_cases t3 : t = 2
  · subst t3; simp (config := {decide := true}); (repeat' (first | apply And.intro | intro _)) <;> simp_all
  by_cases t4 : t = -2
  · subst t4; simp (config := {decide := true}); (repeat' (first | apply And.intro | intro _)) <;> simp_all
  simp [t0, t1, t2, t3, t4]
theorem s_rOrder : Sound Try.prog 47 C_rOrder :=
  sound_of_eq (env_ok (.cons s_rTrace (.cons s_rAdjugate (.cons s_rDet (.cons s_One (.cons s_rMul (.nil))))))) (fun x => T_rOrder x.1) r_rOrder fun x ok hp => p_rOrder x.1 ok.1
end Go.Fx
