/-
  Contracts: OpGroups.
-/
import Derived.Test.YthljaepanhdmiaaK16
import Derived.Test.YthljaepanhdmiaaKs
namespace Go.Fx
open Go Go.Proofs
set_option maxRecDepth 100000
set_option linter.unusedVariables false
noncomputable def C_OpGroups : Contract := { args := [.agg .op, .agg .op, .agg .op, .agg .pt], res := [.bool], pre := fun _ => True, F := fun x => ((true : Bool), ()) }
def T_OpGroups (a : Op3) (b : Op3) (c : Op3) (p : Pt) : Prop :=
  (True ∧
(((!true) = true →
 (false, ()) = (true, ())) ∧
((!true) = false →
(True ∧
∀ z5 : Bool,
(z5 = nilE a →
(((!z5) = true →
 (true, ()) = (true, ())) ∧
((!z5) = false →
(True ∧
(True ∧
(True ∧
(True ∧
(((!(decide (mulE a oneO = 0))) = true →
 (false, ()) = (true, ())) ∧
((!(decide (mulE a oneO = 0))) = false →
(((!(decide (mulE oneO a = 0))) = true →
 (false, ()) = (true, ())) ∧
((!(decide (mulE oneO a = 0))) = false →
(((!((decide (((selO (mulE a oneO) (mulO a oneO)).R).xx = a.R.xx)) && ((decide (((selO (mulE a oneO) (mulO a oneO)).R).xy = a.R.xy)) && ((decide (((selO (mulE a oneO) (mulO a oneO)).R).xz = a.R.xz)) && ((decide (((selO (mulE a oneO) (mulO a oneO)).R).yx = a.R.yx)) && ((decide (((selO (mulE a oneO) (mulO a oneO)).R).yy = a.R.yy)) && ((decide (((selO (mulE a oneO) (mulO a oneO)).R).yz = a.R.yz)) && ((decide (((selO (mulE a oneO) (mulO a oneO)).R).zx = a.R.zx)) && ((decide (((selO (mulE a oneO) (mulO a oneO)).R).zy = a.R.zy)) && ((decide (((selO (mulE a oneO) (mulO a oneO)).R).zz = a.R.zz)) && ((decide (((selO (mulE a oneO) (mulO a oneO)).T).x = a.T.x)) && ((decide (((selO (mulE a oneO) (mulO a oneO)).T).y = a.T.y)) && ((decide (((selO (mulE a oneO) (mulO a oneO)).T).z = a.T.z)) && true))))))))))))) = true →
 (false, ()) = (true, ())) ∧
((!((decide (((selO (mulE a oneO) (mulO a oneO)).R).xx = a.R.xx)) && ((decide (((selO (mulE a oneO) (mulO a oneO)).R).xy = a.R.xy)) && ((decide (((selO (mulE a oneO) (mulO a oneO)).R).xz = a.R.xz)) && ((decide (((selO (mulE a oneO) (mulO a oneO)).R).yx = a.R.yx)) && ((decide (((selO (mulE a oneO) (mulO a oneO)).R).yy = a.R.yy)) && ((decide (((selO (mulE a oneO) (mulO a oneO)).R).yz = a.R.yz)) && ((decide (((selO (mulE a oneO) (mulO a oneO)).R).zx = a.R.zx)) && ((decide (((selO (mulE a oneO) (mulO a oneO)).R).zy = a.R.zy)) && ((decide (((selO (mulE a oneO) (mulO a oneO)).R).zz = a.R.zz)) && ((decide (((selO (mulE a oneO) (mulO a oneO)).T).x = a.T.x)) && ((decide (((selO (mulE a oneO) (mulO a oneO)).T).y = a.T.y)) && ((decide (((selO (mulE a oneO) (mulO a oneO)).T).z = a.T.z)) && true))))))))))))) = false →
(((!((decide (((selO (mulE oneO a) (mulO oneO a)).R).xx = a.R.xx)) && ((decide (((selO (mulE oneO a) (mulO oneO a)).R).xy = a.R.xy)) && ((decide (((selO (mulE oneO a) (mulO oneO a)).R).xz = a.R.xz)) && ((decide (((selO (mulE oneO a) (mulO oneO a)).R).yx = a.R.yx)) && ((decide (((selO (mulE oneO a) (mulO oneO a)).R).yy = a.R.yy)) && ((decide (((selO (mulE oneO a) (mulO oneO a)).R).yz = a.R.yz)) && ((decide (((selO (mulE oneO a) (mulO oneO a)).R).zx = a.R.zx)) && ((decide (((selO (mulE oneO a) (mulO oneO a)).R).zy = a.R.zy)) && ((decide (((selO (mulE oneO a) (mulO oneO a)).R).zz = a.R.zz)) && ((decide (((selO (mulE oneO a) (mulO oneO a)).T).x = a.T.x)) && ((decide (((selO (mulE oneO a) (mulO oneO a)).T).y = a.T.y)) && ((decide (((selO (mulE oneO a) (mulO oneO a)).T).z = a.T.z)) && true))))))))))))) = true →
 (false, ()) = (true, ())) ∧
((!((decide (((selO (mulE oneO a) (mulO oneO a)).R).xx = a.R.xx)) && ((decide (((selO (mulE oneO a) (mulO oneO a)).R).xy = a.R.xy)) && ((decide (((selO (mulE oneO a) (mulO oneO a)).R).xz = a.R.xz)) && ((decide (((selO (mulE oneO a) (mulO oneO a)).R).yx = a.R.yx)) && ((decide (((selO (mulE oneO a) (mulO oneO a)).R).yy = a.R.yy)) && ((decide (((selO (mulE oneO a) (mulO oneO a)).R).yz = a.R.yz)) && ((decide (((selO (mulE oneO a) (mulO oneO a)).R).zx = a.R.zx)) && ((decide (((selO (mulE oneO a) (mulO oneO a)).R).zy = a.R.zy)) && ((decide (((selO (mulE oneO a) (mulO oneO a)).R).zz = a.R.zz)) && ((decide (((selO (mulE oneO a) (mulO oneO a)).T).x = a.T.x)) && ((decide (((selO (mulE oneO a) (mulO oneO a)).T).y = a.T.y)) && ((decide (((selO (mulE oneO a) (mulO oneO a)).T).z = a.T.z)) && true))))))))))))) = false →
(True ∧
∀ z12 : Bool,
(z12 = nilE b →
(((!z12) = true →
 (true, ()) = (true, ())) ∧
((!z12) = false →
(True ∧
(True ∧
(True ∧
(True ∧
(((!(decide (mulE b oneO = 0))) = true →
 (false, ()) = (true, ())) ∧
((!(decide (mulE b oneO = 0))) = false →
(((!(decide (mulE oneO b = 0))) = true →
 (false, ()) = (true, ())) ∧
((!(decide (mulE oneO b = 0))) = false →
(((!((decide (((selO (mulE b oneO) (mulO b oneO)).R).xx = b.R.xx)) && ((decide (((selO (mulE b oneO) (mulO b oneO)).R).xy = b.R.xy)) && ((decide (((selO (mulE b oneO) (mulO b oneO)).R).xz = b.R.xz)) && ((decide (((selO (mulE b oneO) (mulO b oneO)).R).yx = b.R.yx)) && ((decide (((selO (mulE b oneO) (mulO b oneO)).R).yy = b.R.yy)) && ((decide (((selO (mulE b oneO) (mulO b oneO)).R).yz = b.R.yz)) && ((decide (((selO (mulE b oneO) (mulO b oneO)).R).zx = b.R.zx)) && ((decide (((selO (mulE b oneO) (mulO b oneO)).R).zy = b.R.zy)) && ((decide (((selO (mulE b oneO) (mulO b oneO)).R).zz = b.R.zz)) && ((decide (((selO (mulE b oneO) (mulO b oneO)).T).x = b.T.x)) && ((decide (((selO (mulE b oneO) (mulO b oneO)).T).y = b.T.y)) && ((decide (((selO (mulE b oneO) (mulO b oneO)).T).z = b.T.z)) && true))))))))))))) = true →
 (false, ()) = (true, ())) ∧
((!((decide (((selO (mulE b oneO) (mulO b oneO)).R).xx = b.R.xx)) && ((decide (((selO (mulE b oneO) (mulO b oneO)).R).xy = b.R.xy)) && ((decide (((selO (mulE b oneO) (mulO b oneO)).R).xz = b.R.xz)) && ((decide (((selO (mulE b oneO) (mulO b oneO)).R).yx = b.R.yx)) && ((decide (((selO (mulE b oneO) (mulO b oneO)).R).yy = b.R.yy)) && ((decide (((selO (mulE b oneO) (mulO b oneO)).R).yz = b.R.yz)) && ((decide (((selO (mulE b oneO) (mulO b oneO)).R).zx = b.R.zx)) && ((decide (((selO (mulE b oneO) (mulO b oneO)).R).zy = b.R.zy)) && ((decide (((selO (mulE b oneO) (mulO b oneO)).R).zz = b.R.zz)) && ((decide (((selO (mulE b oneO) (mulO b oneO)).T).x = b.T.x)) && ((decide (((selO (mulE b oneO) (mulO b oneO)).T).y = b.T.y)) && ((decide (((selO (mulE b oneO) (mulO b oneO)).T).z = b.T.z)) && true))))))))))))) = false →
(((!((decide (((selO (mulE oneO b) (mulO oneO b)).R).xx = b.R.xx)) && ((decide (((selO (mulE oneO b) (mulO oneO b)).R).xy = b.R.xy)) && ((decide (((selO (mulE oneO b) (mulO oneO b)).R).xz = b.R.xz)) && ((decide (((selO (mulE oneO b) (mulO oneO b)).R).yx = b.R.yx)) && ((decide (((selO (mulE oneO b) (mulO oneO b)).R).yy = b.R.yy)) && ((decide (((selO (mulE oneO b) (mulO oneO b)).R).yz = b.R.yz)) && ((decide (((selO (mulE oneO b) (mulO oneO b)).R).zx = b.R.zx)) && ((decide (((selO (mulE oneO b) (mulO oneO b)).R).zy = b.R.zy)) && ((decide (((selO (mulE oneO b) (mulO oneO b)).R).zz = b.R.zz)) && ((decide (((selO (mulE oneO b) (mulO oneO b)).T).x = b.T.x)) && ((decide (((selO (mulE oneO b) (mulO oneO b)).T).y = b.T.y)) && ((decide (((selO (mulE oneO b) (mulO oneO b)).T).z = b.T.z)) && true))))))))))))) = true →
 (false, ()) = (true, ())) ∧
((!((decide (((selO (mulE oneO b) (mulO oneO b)).R).xx = b.R.xx)) && ((decide (((selO (mulE oneO b) (mulO oneO b)).R).xy = b.R.xy)) && ((decide (((selO (mulE oneO b) (mulO oneO b)).R).xz = b.R.xz)) && ((decide (((selO (mulE oneO b) (mulO oneO b)).R).yx = b.R.yx)) && ((decide (((selO (mulE oneO b) (mulO oneO b)).R).yy = b.R.yy)) && ((decide (((selO (mulE oneO b) (mulO oneO b)).R).yz = b.R.yz)) && ((decide (((selO (mulE oneO b) (mulO oneO b)).R).zx = b.R.zx)) && ((decide (((selO (mulE oneO b) (mulO oneO b)).R).zy = b.R.zy)) && ((decide (((selO (mulE oneO b) (mulO oneO b)).R).zz = b.R.zz)) && ((decide (((selO (mulE oneO b) (mulO oneO b)).T).x = b.T.x)) && ((decide (((selO (mulE oneO b) (mulO oneO b)).T).y = b.T.y)) && ((decide (((selO (mulE oneO b) (mulO oneO b)).T).z = b.T.z)) && true))))))))))))) = false →
(True ∧
∀ z19 : Bool,
(z19 = nilE c →
(((!z19) = true →
 (true, ()) = (true, ())) ∧
((!z19) = false →
(True ∧
(True ∧
(True ∧
(True ∧
(((!(decide (mulE c oneO = 0))) = true →
 (false, ()) = (true, ())) ∧
((!(decide (mulE c oneO = 0))) = false →
(((!(decide (mulE oneO c = 0))) = true →
 (false, ()) = (true, ())) ∧
((!(decide (mulE oneO c = 0))) = false →
(((!((decide (((selO (mulE c oneO) (mulO c oneO)).R).xx = c.R.xx)) && ((decide (((selO (mulE c oneO) (mulO c oneO)).R).xy = c.R.xy)) && ((decide (((selO (mulE c oneO) (mulO c oneO)).R).xz = c.R.xz)) && ((decide (((selO (mulE c oneO) (mulO c oneO)).R).yx = c.R.yx)) && ((decide (((selO (mulE c oneO) (mulO c oneO)).R).yy = c.R.yy)) && ((decide (((selO (mulE c oneO) (mulO c oneO)).R).yz = c.R.yz)) && ((decide (((selO (mulE c oneO) (mulO c oneO)).R).zx = c.R.zx)) && ((decide (((selO (mulE c oneO) (mulO c oneO)).R).zy = c.R.zy)) && ((decide (((selO (mulE c oneO) (mulO c oneO)).R).zz = c.R.zz)) && ((decide (((selO (mulE c oneO) (mulO c oneO)).T).x = c.T.x)) && ((decide (((selO (mulE c oneO) (mulO c oneO)).T).y = c.T.y)) && ((decide (((selO (mulE c oneO) (mulO c oneO)).T).z = c.T.z)) && true))))))))))))) = true →
 (false, ()) = (true, ())) ∧
((!((decide (((selO (mulE c oneO) (mulO c oneO)).R).xx = c.R.xx)) && ((decide (((selO (mulE c oneO) (mulO c oneO)).R).xy = c.R.xy)) && ((decide (((selO (mulE c oneO) (mulO c oneO)).R).xz = c.R.xz)) && ((decide (((selO (mulE c oneO) (mulO c oneO)).R).yx = c.R.yx)) && ((decide (((selO (mulE c oneO) (mulO c oneO)).R).yy = c.R.yy)) && ((decide (((selO (mulE c oneO) (mulO c oneO)).R).yz = c.R.yz)) && ((decide (((selO (mulE c oneO) (mulO c oneO)).R).zx = c.R.zx)) && ((decide (((selO (mulE c oneO) (mulO c oneO)).R).zy = c.R.zy)) && ((decide (((selO (mulE c oneO) (mulO c oneO)).R).zz = c.R.zz)) && ((decide (((selO (mulE c oneO) (mulO c oneO)).T).x = c.T.x)) && ((decide (((selO (mulE c oneO) (mulO c oneO)).T).y = c.T.y)) && ((decide (((selO (mulE c oneO) (mulO c oneO)).T).z = c.T.z)) && true))))))))))))) = false →
(((!((decide (((selO (mulE oneO c) (mulO oneO c)).R).xx = c.R.xx)) && ((decide (((selO (mulE oneO c) (mulO oneO c)).R).xy = c.R.xy)) && ((decide (((selO (mulE oneO c) (mulO oneO c)).R).xz = c.R.xz)) && ((decide (((selO (mulE oneO c) (mulO oneO c)).R).yx = c.R.yx)) && ((decide (((selO (mulE oneO c) (mulO oneO c)).R).yy = c.R.yy)) && ((decide (((selO (mulE oneO c) (mulO oneO c)).R).yz = c.R.yz)) && ((decide (((selO (mulE oneO c) (mulO oneO c)).R).zx = c.R.zx)) && ((decide (((selO (mulE oneO c) (mulO oneO c)).R).zy = c.R.zy)) && ((decide (((selO (mulE oneO c) (mulO oneO c)).R).zz = c.R.zz)) && ((decide (((selO (mulE oneO c) (mulO oneO c)).T).x = c.T.x)) && ((decide (((selO (mulE oneO c) (mulO oneO c)).T).y = c.T.y)) && ((decide (((selO (mulE oneO c) (mulO oneO c)).T).z = c.T.z)) && true))))))))))))) = true →
 (false, ()) = (true, ())) ∧
((!((decide (((selO (mulE oneO c) (mulO oneO c)).R).xx = c.R.xx)) && ((decide (((selO (mulE oneO c) (mulO oneO c)).R).xy = c.R.xy)) && ((decide (((selO (mulE oneO c) (mulO oneO c)).R).xz = c.R.xz)) && ((decide (((selO (mulE oneO c) (mulO oneO c)).R).yx = c.R.yx)) && ((decide (((selO (mulE oneO c) (mulO oneO c)).R).yy = c.R.yy)) && ((decide (((selO (mulE oneO c) (mulO oneO c)).R).yz = c.R.yz)) && ((decide (((selO (mulE oneO c) (mulO oneO c)).R).zx = c.R.zx)) && ((decide (((selO (mulE oneO c) (mulO oneO c)).R).zy = c.R.zy)) && ((decide (((selO (mulE oneO c) (mulO oneO c)).R).zz = c.R.zz)) && ((decide (((selO (mulE oneO c) (mulO oneO c)).T).x = c.T.x)) && ((decide (((selO (mulE oneO c) (mulO oneO c)).T).y = c.T.y)) && ((decide (((selO (mulE oneO c) (mulO oneO c)).T).z = c.T.z)) && true))))))))))))) = false →
(True ∧
∀ z26 : Op3,
(z26 = selO (mulE a b) (mulO a b) →
∀ z28 : Int,
(z28 = mulE a b →
(True ∧
∀ z30 : Op3,
(z30 = selO (mulE b c) (mulO b c) →
∀ z32 : Int,
(z32 = mulE b c →
(((decide (z28 = 0)) = true →
 (((decide (z32 = 0)) = true →
  (True ∧
  ∀ z36 : Op3,
  (z36 = selO (mulE z26 c) (mulO z26 c) →
  ∀ z38 : Int,
  (z38 = mulE z26 c →
  (True ∧
  ∀ z40 : Op3,
  (z40 = selO (mulE a z30) (mulO a z30) →
  ∀ z42 : Int,
  (z42 = mulE a z30 →
  (((!(decide (z38 = z42))) = true →
   (false, ()) = (true, ())) ∧
  ((!(decide (z38 = z42))) = false →
  (((!((decide (z36.R.xx = z40.R.xx)) && ((decide (z36.R.xy = z40.R.xy)) && ((decide (z36.R.xz = z40.R.xz)) && ((decide (z36.R.yx = z40.R.yx)) && ((decide (z36.R.yy = z40.R.yy)) && ((decide (z36.R.yz = z40.R.yz)) && ((decide (z36.R.zx = z40.R.zx)) && ((decide (z36.R.zy = z40.R.zy)) && ((decide (z36.R.zz = z40.R.zz)) && ((decide (z36.T.x = z40.T.x)) && ((decide (z36.T.y = z40.T.y)) && ((decide (z36.T.z = z40.T.z)) && true))))))))))))) = true →
   (false, ()) = (true, ())) ∧
  ((!((decide (z36.R.xx = z40.R.xx)) && ((decide (z36.R.xy = z40.R.xy)) && ((decide (z36.R.xz = z40.R.xz)) && ((decide (z36.R.yx = z40.R.yx)) && ((decide (z36.R.yy = z40.R.yy)) && ((decide (z36.R.yz = z40.R.yz)) && ((decide (z36.R.zx = z40.R.zx)) && ((decide (z36.R.zy = z40.R.zy)) && ((decide (z36.R.zz = z40.R.zz)) && ((decide (z36.T.x = z40.T.x)) && ((decide (z36.T.y = z40.T.y)) && ((decide (z36.T.z = z40.T.z)) && true))))))))))))) = false →
  (True ∧
  ∀ z46 : Op3,
  (z46 = selO (invE a) (invO a) →
  ∀ z48 : Int,
  (z48 = invE a →
  (((decide (z48 = 0)) = true →
   (True ∧
   ∀ z51 : Op3,
   (z51 = selO (mulE a z46) (mulO a z46) →
   ∀ z53 : Int,
   (z53 = mulE a z46 →
   (True ∧
   ∀ z55 : Op3,
   (z55 = selO (mulE z46 a) (mulO z46 a) →
   ∀ z57 : Int,
   (z57 = mulE z46 a →
   (True ∧
   ∀ z59 : Op3,
   (z59 = selO (invE z46) (invO z46) →
   ∀ z61 : Int,
   (z61 = invE z46 →
   (((!(decide (z53 = 0))) = true →
    (false, ()) = (true, ())) ∧
   ((!(decide (z53 = 0))) = false →
   (((!(decide (z57 = 0))) = true →
    (false, ()) = (true, ())) ∧
   ((!(decide (z57 = 0))) = false →
   (((!(decide (z61 = 0))) = true →
    (false, ()) = (true, ())) ∧
   ((!(decide (z61 = 0))) = false →
   (True ∧
   (((!((decide (z51.R.xx = oneO.R.xx)) && ((decide (z51.R.xy = oneO.R.xy)) && ((decide (z51.R.xz = oneO.R.xz)) && ((decide (z51.R.yx = oneO.R.yx)) && ((decide (z51.R.yy = oneO.R.yy)) && ((decide (z51.R.yz = oneO.R.yz)) && ((decide (z51.R.zx = oneO.R.zx)) && ((decide (z51.R.zy = oneO.R.zy)) && ((decide (z51.R.zz = oneO.R.zz)) && ((decide (z51.T.x = oneO.T.x)) && ((decide (z51.T.y = oneO.T.y)) && ((decide (z51.T.z = oneO.T.z)) && true))))))))))))) = true →
    (false, ()) = (true, ())) ∧
   ((!((decide (z51.R.xx = oneO.R.xx)) && ((decide (z51.R.xy = oneO.R.xy)) && ((decide (z51.R.xz = oneO.R.xz)) && ((decide (z51.R.yx = oneO.R.yx)) && ((decide (z51.R.yy = oneO.R.yy)) && ((decide (z51.R.yz = oneO.R.yz)) && ((decide (z51.R.zx = oneO.R.zx)) && ((decide (z51.R.zy = oneO.R.zy)) && ((decide (z51.R.zz = oneO.R.zz)) && ((decide (z51.T.x = oneO.T.x)) && ((decide (z51.T.y = oneO.T.y)) && ((decide (z51.T.z = oneO.T.z)) && true))))))))))))) = false →
   (True ∧
   (((!((decide (z55.R.xx = oneO.R.xx)) && ((decide (z55.R.xy = oneO.R.xy)) && ((decide (z55.R.xz = oneO.R.xz)) && ((decide (z55.R.yx = oneO.R.yx)) && ((decide (z55.R.yy = oneO.R.yy)) && ((decide (z55.R.yz = oneO.R.yz)) && ((decide (z55.R.zx = oneO.R.zx)) && ((decide (z55.R.zy = oneO.R.zy)) && ((decide (z55.R.zz = oneO.R.zz)) && ((decide (z55.T.x = oneO.T.x)) && ((decide (z55.T.y = oneO.T.y)) && ((decide (z55.T.z = oneO.T.z)) && true))))))))))))) = true →
    (false, ()) = (true, ())) ∧
   ((!((decide (z55.R.xx = oneO.R.xx)) && ((decide (z55.R.xy = oneO.R.xy)) && ((decide (z55.R.xz = oneO.R.xz)) && ((decide (z55.R.yx = oneO.R.yx)) && ((decide (z55.R.yy = oneO.R.yy)) && ((decide (z55.R.yz = oneO.R.yz)) && ((decide (z55.R.zx = oneO.R.zx)) && ((decide (z55.R.zy = oneO.R.zy)) && ((decide (z55.R.zz = oneO.R.zz)) && ((decide (z55.T.x = oneO.T.x)) && ((decide (z55.T.y = oneO.T.y)) && ((decide (z55.T.z = oneO.T.z)) && true))))))))))))) = false →
   (((!((decide (z59.R.xx = a.R.xx)) && ((decide (z59.R.xy = a.R.xy)) && ((decide (z59.R.xz = a.R.xz)) && ((decide (z59.R.yx = a.R.yx)) && ((decide (z59.R.yy = a.R.yy)) && ((decide (z59.R.yz = a.R.yz)) && ((decide (z59.R.zx = a.R.zx)) && ((decide (z59.R.zy = a.R.zy)) && ((decide (z59.R.zz = a.R.zz)) && ((decide (z59.T.x = a.T.x)) && ((decide (z59.T.y = a.T.y)) && ((decide (z59.T.z = a.T.z)) && true))))))))))))) = true →
    (false, ()) = (true, ())) ∧
   ((!((decide (z59.R.xx = a.R.xx)) && ((decide (z59.R.xy = a.R.xy)) && ((decide (z59.R.xz = a.R.xz)) && ((decide (z59.R.yx = a.R.yx)) && ((decide (z59.R.yy = a.R.yy)) && ((decide (z59.R.yz = a.R.yz)) && ((decide (z59.R.zx = a.R.zx)) && ((decide (z59.R.zy = a.R.zy)) && ((decide (z59.R.zz = a.R.zz)) && ((decide (z59.T.x = a.T.x)) && ((decide (z59.T.y = a.T.y)) && ((decide (z59.T.z = a.T.z)) && true))))))))))))) = false →
   (((!(decide (z28 = 0))) = true →
    (true, ()) = (true, ())) ∧
   ((!(decide (z28 = 0))) = false →
   (True ∧
   ∀ z70 : Bool,
   (z70 = frmP p →
   (((!z70) = true →
    (true, ()) = (true, ())) ∧
   ((!z70) = false →
   (True ∧
   ∀ z73 : Pt,
   (z73 = appP z26 p →
   ∀ z75 : Int,
   (z75 = appE z26 p →
   (True ∧
   ∀ z77 : Pt,
   (z77 = appP b p →
   ∀ z79 : Int,
   (z79 = appE b p →
   (True ∧
   ∀ z81 : Pt,
   (z81 = appP a z77 →
   ∀ z83 : Int,
   (z83 = appE a z77 →
   (((decide (z75 = 0)) = true →
    (((decide (z79 = 0)) = true →
     (((decide (z83 = 0)) = true →
      (((decide (z73.M = z81.M)) && ((decide (z73.X.x = z81.X.x)) && ((decide (z73.X.y = z81.X.y)) && ((decide (z73.X.z = z81.X.z)) && true)))), ()) = (true, ())) ∧
     ((decide (z83 = 0)) = false →
     (false, ()) = (true, ())))) ∧
    ((decide (z79 = 0)) = false →
    (false, ()) = (true, ())))) ∧
   ((decide (z75 = 0)) = false →
   (false, ()) = (true, ())))))))))))))))))))))))))))))))))))))))))) ∧
  ((decide (z48 = 0)) = false →
  (((!(decide (z28 = 0))) = true →
   (true, ()) = (true, ())) ∧
  ((!(decide (z28 = 0))) = false →
  (True ∧
  ∀ z52 : Bool,
  (z52 = frmP p →
  (((!z52) = true →
   (true, ()) = (true, ())) ∧
  ((!z52) = false →
  (True ∧
  ∀ z55 : Pt,
  (z55 = appP z26 p →
  ∀ z57 : Int,
  (z57 = appE z26 p →
  (True ∧
  ∀ z59 : Pt,
  (z59 = appP b p →
  ∀ z61 : Int,
  (z61 = appE b p →
  (True ∧
  ∀ z63 : Pt,
  (z63 = appP a z59 →
  ∀ z65 : Int,
  (z65 = appE a z59 →
  (((decide (z57 = 0)) = true →
   (((decide (z61 = 0)) = true →
    (((decide (z65 = 0)) = true →
     (((decide (z55.M = z63.M)) && ((decide (z55.X.x = z63.X.x)) && ((decide (z55.X.y = z63.X.y)) && ((decide (z55.X.z = z63.X.z)) && true)))), ()) = (true, ())) ∧
    ((decide (z65 = 0)) = false →
    (false, ()) = (true, ())))) ∧
   ((decide (z61 = 0)) = false →
   (false, ()) = (true, ())))) ∧
  ((decide (z57 = 0)) = false →
  (false, ()) = (true, ())))))))))))))))))))))))))))))))))) ∧
 ((decide (z32 = 0)) = false →
 (True ∧
 ∀ z36 : Op3,
 (z36 = selO (invE a) (invO a) →
 ∀ z38 : Int,
 (z38 = invE a →
 (((decide (z38 = 0)) = true →
  (True ∧
  ∀ z41 : Op3,
  (z41 = selO (mulE a z36) (mulO a z36) →
  ∀ z43 : Int,
  (z43 = mulE a z36 →
  (True ∧
  ∀ z45 : Op3,
  (z45 = selO (mulE z36 a) (mulO z36 a) →
  ∀ z47 : Int,
  (z47 = mulE z36 a →
  (True ∧
  ∀ z49 : Op3,
  (z49 = selO (invE z36) (invO z36) →
  ∀ z51 : Int,
  (z51 = invE z36 →
  (((!(decide (z43 = 0))) = true →
   (false, ()) = (true, ())) ∧
  ((!(decide (z43 = 0))) = false →
  (((!(decide (z47 = 0))) = true →
   (false, ()) = (true, ())) ∧
  ((!(decide (z47 = 0))) = false →
  (((!(decide (z51 = 0))) = true →
   (false, ()) = (true, ())) ∧
  ((!(decide (z51 = 0))) = false →
  (True ∧
  (((!((decide (z41.R.xx = oneO.R.xx)) && ((decide (z41.R.xy = oneO.R.xy)) && ((decide (z41.R.xz = oneO.R.xz)) && ((decide (z41.R.yx = oneO.R.yx)) && ((decide (z41.R.yy = oneO.R.yy)) && ((decide (z41.R.yz = oneO.R.yz)) && ((decide (z41.R.zx = oneO.R.zx)) && ((decide (z41.R.zy = oneO.R.zy)) && ((decide (z41.R.zz = oneO.R.zz)) && ((decide (z41.T.x = oneO.T.x)) && ((decide (z41.T.y = oneO.T.y)) && ((decide (z41.T.z = oneO.T.z)) && true))))))))))))) = true →
   (false, ()) = (true, ())) ∧
  ((!((decide (z41.R.xx = oneO.R.xx)) && ((decide (z41.R.xy = oneO.R.xy)) && ((decide (z41.R.xz = oneO.R.xz)) && ((decide (z41.R.yx = oneO.R.yx)) && ((decide (z41.R.yy = oneO.R.yy)) && ((decide (z41.R.yz = oneO.R.yz)) && ((decide (z41.R.zx = oneO.R.zx)) && ((decide (z41.R.zy = oneO.R.zy)) && ((decide (z41.R.zz = oneO.R.zz)) && ((decide (z41.T.x = oneO.T.x)) && ((decide (z41.T.y = oneO.T.y)) && ((decide (z41.T.z = oneO.T.z)) && true))))))))))))) = false →
  (True ∧
  (((!((decide (z45.R.xx = oneO.R.xx)) && ((decide (z45.R.xy = oneO.R.xy)) && ((decide (z45.R.xz = oneO.R.xz)) && ((decide (z45.R.yx = oneO.R.yx)) && ((decide (z45.R.yy = oneO.R.yy)) && ((decide (z45.R.yz = oneO.R.yz)) && ((decide (z45.R.zx = oneO.R.zx)) && ((decide (z45.R.zy = oneO.R.zy)) && ((decide (z45.R.zz = oneO.R.zz)) && ((decide (z45.T.x = oneO.T.x)) && ((decide (z45.T.y = oneO.T.y)) && ((decide (z45.T.z = oneO.T.z)) && true))))))))))))) = true →
   (false, ()) = (true, ())) ∧
  ((!((decide (z45.R.xx = oneO.R.xx)) && ((decide (z45.R.xy = oneO.R.xy)) && ((decide (z45.R.xz = oneO.R.xz)) && ((decide (z45.R.yx = oneO.R.yx)) && ((decide (z45.R.yy = oneO.R.yy)) && ((decide (z45.R.yz = oneO.R.yz)) && ((decide (z45.R.zx = oneO.R.zx)) && ((decide (z45.R.zy = oneO.R.zy)) && ((decide (z45.R.zz = oneO.R.zz)) && ((decide (z45.T.x = oneO.T.x)) && ((decide (z45.T.y = oneO.T.y)) && ((decide (z45.T.z = oneO.T.z)) && true))))))))))))) = false →
  (((!((decide (z49.R.xx = a.R.xx)) && ((decide (z49.R.xy = a.R.xy)) && ((decide (z49.R.xz = a.R.xz)) && ((decide (z49.R.yx = a.R.yx)) && ((decide (z49.R.yy = a.R.yy)) && ((decide (z49.R.yz = a.R.yz)) && ((decide (z49.R.zx = a.R.zx)) && ((decide (z49.R.zy = a.R.zy)) && ((decide (z49.R.zz = a.R.zz)) && ((decide (z49.T.x = a.T.x)) && ((decide (z49.T.y = a.T.y)) && ((decide (z49.T.z = a.T.z)) && true))))))))))))) = true →
   (false, ()) = (true, ())) ∧
  ((!((decide (z49.R.xx = a.R.xx)) && ((decide (z49.R.xy = a.R.xy)) && ((decide (z49.R.xz = a.R.xz)) && ((decide (z49.R.yx = a.R.yx)) && ((decide (z49.R.yy = a.R.yy)) && ((decide (z49.R.yz = a.R.yz)) && ((decide (z49.R.zx = a.R.zx)) && ((decide (z49.R.zy = a.R.zy)) && ((decide (z49.R.zz = a.R.zz)) && ((decide (z49.T.x = a.T.x)) && ((decide (z49.T.y = a.T.y)) && ((decide (z49.T.z = a.T.z)) && true))))))))))))) = false →
  (((!(decide (z28 = 0))) = true →
   (true, ()) = (true, ())) ∧
  ((!(decide (z28 = 0))) = false →
  (True ∧
  ∀ z60 : Bool,
  (z60 = frmP p →
  (((!z60) = true →
   (true, ()) = (true, ())) ∧
  ((!z60) = false →
  (True ∧
  ∀ z63 : Pt,
  (z63 = appP z26 p →
  ∀ z65 : Int,
  (z65 = appE z26 p →
  (True ∧
  ∀ z67 : Pt,
  (z67 = appP b p →
  ∀ z69 : Int,
  (z69 = appE b p →
  (True ∧
  ∀ z71 : Pt,
  (z71 = appP a z67 →
  ∀ z73 : Int,
  (z73 = appE a z67 →
  (((decide (z65 = 0)) = true →
   (((decide (z69 = 0)) = true →
    (((decide (z73 = 0)) = true →
     (((decide (z63.M = z71.M)) && ((decide (z63.X.x = z71.X.x)) && ((decide (z63.X.y = z71.X.y)) && ((decide (z63.X.z = z71.X.z)) && true)))), ()) = (true, ())) ∧
    ((decide (z73 = 0)) = false →
    (false, ()) = (true, ())))) ∧
   ((decide (z69 = 0)) = false →
   (false, ()) = (true, ())))) ∧
  ((decide (z65 = 0)) = false →
  (false, ()) = (true, ())))))))))))))))))))))))))))))))))))))))))) ∧
 ((decide (z38 = 0)) = false →
 (((!(decide (z28 = 0))) = true →
  (true, ()) = (true, ())) ∧
 ((!(decide (z28 = 0))) = false →
 (True ∧
 ∀ z42 : Bool,
 (z42 = frmP p →
 (((!z42) = true →
  (true, ()) = (true, ())) ∧
 ((!z42) = false →
 (True ∧
 ∀ z45 : Pt,
 (z45 = appP z26 p →
 ∀ z47 : Int,
 (z47 = appE z26 p →
 (True ∧
 ∀ z49 : Pt,
 (z49 = appP b p →
 ∀ z51 : Int,
 (z51 = appE b p →
 (True ∧
 ∀ z53 : Pt,
 (z53 = appP a z49 →
 ∀ z55 : Int,
 (z55 = appE a z49 →
 (((decide (z47 = 0)) = true →
  (((decide (z51 = 0)) = true →
   (((decide (z55 = 0)) = true →
    (((decide (z45.M = z53.M)) && ((decide (z45.X.x = z53.X.x)) && ((decide (z45.X.y = z53.X.y)) && ((decide (z45.X.z = z53.X.z)) && true)))), ()) = (true, ())) ∧
   ((decide (z55 = 0)) = false →
   (false, ()) = (true, ())))) ∧
  ((decide (z51 = 0)) = false →
  (false, ()) = (true, ())))) ∧
 ((decide (z47 = 0)) = false →
 (false, ()) = (true, ())))))))))))))))))))))))))) ∧
((decide (z28 = 0)) = false →
(True ∧
∀ z35 : Op3,
(z35 = selO (invE a) (invO a) →
∀ z37 : Int,
(z37 = invE a →
(((decide (z37 = 0)) = true →
 (True ∧
 ∀ z40 : Op3,
 (z40 = selO (mulE a z35) (mulO a z35) →
 ∀ z42 : Int,
 (z42 = mulE a z35 →
 (True ∧
 ∀ z44 : Op3,
 (z44 = selO (mulE z35 a) (mulO z35 a) →
 ∀ z46 : Int,
 (z46 = mulE z35 a →
 (True ∧
 ∀ z48 : Op3,
 (z48 = selO (invE z35) (invO z35) →
 ∀ z50 : Int,
 (z50 = invE z35 →
 (((!(decide (z42 = 0))) = true →
  (false, ()) = (true, ())) ∧
 ((!(decide (z42 = 0))) = false →
 (((!(decide (z46 = 0))) = true →
  (false, ()) = (true, ())) ∧
 ((!(decide (z46 = 0))) = false →
 (((!(decide (z50 = 0))) = true →
  (false, ()) = (true, ())) ∧
 ((!(decide (z50 = 0))) = false →
 (True ∧
 (((!((decide (z40.R.xx = oneO.R.xx)) && ((decide (z40.R.xy = oneO.R.xy)) && ((decide (z40.R.xz = oneO.R.xz)) && ((decide (z40.R.yx = oneO.R.yx)) && ((decide (z40.R.yy = oneO.R.yy)) && ((decide (z40.R.yz = oneO.R.yz)) && ((decide (z40.R.zx = oneO.R.zx)) && ((decide (z40.R.zy = oneO.R.zy)) && ((decide (z40.R.zz = oneO.R.zz)) && ((decide (z40.T.x = oneO.T.x)) && ((decide (z40.T.y = oneO.T.y)) && ((decide (z40.T.z = oneO.T.z)) && true))))))))))))) = true →
  (false, ()) = (true, ())) ∧
 ((!((decide (z40.R.xx = oneO.R.xx)) && ((decide (z40.R.xy = oneO.R.xy)) && ((decide (z40.R.xz = oneO.R.xz)) && ((decide (z40.R.yx = oneO.R.yx)) && ((decide (z40.R.yy = oneO.R.yy)) && ((decide (z40.R.yz = oneO.R.yz)) && ((decide (z40.R.zx = oneO.R.zx)) && ((decide (z40.R.zy = oneO.R.zy)) && ((decide (z40.R.zz = oneO.R.zz)) && ((decide (z40.T.x = oneO.T.x)) && ((decide (z40.T.y = oneO.T.y)) && ((decide (z40.T.z = oneO.T.z)) && true))))))))))))) = false →
 (True ∧
 (((!((decide (z44.R.xx = oneO.R.xx)) && ((decide (z44.R.xy = oneO.R.xy)) && ((decide (z44.R.xz = oneO.R.xz)) && ((decide (z44.R.yx = oneO.R.yx)) && ((decide (z44.R.yy = oneO.R.yy)) && ((decide (z44.R.yz = oneO.R.yz)) && ((decide (z44.R.zx = oneO.R.zx)) && ((decide (z44.R.zy = oneO.R.zy)) && ((decide (z44.R.zz = oneO.R.zz)) && ((decide (z44.T.x = oneO.T.x)) && ((decide (z44.T.y = oneO.T.y)) && ((decide (z44.T.z = oneO.T.z)) && true))))))))))))) = true →
  (false, ()) = (true, ())) ∧
 ((!((decide (z44.R.xx = oneO.R.xx)) && ((decide (z44.R.xy = oneO.R.xy)) && ((decide (z44.R.xz = oneO.R.xz)) && ((decide (z44.R.yx = oneO.R.yx)) && ((decide (z44.R.yy = oneO.R.yy)) && ((decide (z44.R.yz = oneO.R.yz)) && ((decide (z44.R.zx = oneO.R.zx)) && ((decide (z44.R.zy = oneO.R.zy)) && ((decide (z44.R.zz = oneO.R.zz)) && ((decide (z44.T.x = oneO.T.x)) && ((decide (z44.T.y = oneO.T.y)) && ((decide (z44.T.z = oneO.T.z)) && true))))))))))))) = false →
 (((!((decide (z48.R.xx = a.R.xx)) && ((decide (z48.R.xy = a.R.xy)) && ((decide (z48.R.xz = a.R.xz)) && ((decide (z48.R.yx = a.R.yx)) && ((decide (z48.R.yy = a.R.yy)) && ((decide (z48.R.yz = a.R.yz)) && ((decide (z48.R.zx = a.R.zx)) && ((decide (z48.R.zy = a.R.zy)) && ((decide (z48.R.zz = a.R.zz)) && ((decide (z48.T.x = a.T.x)) && ((decide (z48.T.y = a.T.y)) && ((decide (z48.T.z = a.T.z)) && true))))))))))))) = true →
  (false, ()) = (true, ())) ∧
 ((!((decide (z48.R.xx = a.R.xx)) && ((decide (z48.R.xy = a.R.xy)) && ((decide (z48.R.xz = a.R.xz)) && ((decide (z48.R.yx = a.R.yx)) && ((decide (z48.R.yy = a.R.yy)) && ((decide (z48.R.yz = a.R.yz)) && ((decide (z48.R.zx = a.R.zx)) && ((decide (z48.R.zy = a.R.zy)) && ((decide (z48.R.zz = a.R.zz)) && ((decide (z48.T.x = a.T.x)) && ((decide (z48.T.y = a.T.y)) && ((decide (z48.T.z = a.T.z)) && true))))))))))))) = false →
 (((!(decide (z28 = 0))) = true →
  (true, ()) = (true, ())) ∧
 ((!(decide (z28 = 0))) = false →
 (True ∧
 ∀ z59 : Bool,
 (z59 = frmP p →
 (((!z59) = true →
  (true, ()) = (true, ())) ∧
 ((!z59) = false →
 (True ∧
 ∀ z62 : Pt,
 (z62 = appP z26 p →
 ∀ z64 : Int,
 (z64 = appE z26 p →
 (True ∧
 ∀ z66 : Pt,
 (z66 = appP b p →
 ∀ z68 : Int,
 (z68 = appE b p →
 (True ∧
 ∀ z70 : Pt,
 (z70 = appP a z66 →
 ∀ z72 : Int,
 (z72 = appE a z66 →
 (((decide (z64 = 0)) = true →
  (((decide (z68 = 0)) = true →
   (((decide (z72 = 0)) = true →
    (((decide (z62.M = z70.M)) && ((decide (z62.X.x = z70.X.x)) && ((decide (z62.X.y = z70.X.y)) && ((decide (z62.X.z = z70.X.z)) && true)))), ()) = (true, ())) ∧
   ((decide (z72 = 0)) = false →
   (false, ()) = (true, ())))) ∧
  ((decide (z68 = 0)) = false →
  (false, ()) = (true, ())))) ∧
 ((decide (z64 = 0)) = false →
 (false, ()) = (true, ())))))))))))))))))))))))))))))))))))))))))) ∧
((decide (z37 = 0)) = false →
(((!(decide (z28 = 0))) = true →
 (true, ()) = (true, ())) ∧
((!(decide (z28 = 0))) = false →
(True ∧
∀ z41 : Bool,
(z41 = frmP p →
(((!z41) = true →
 (true, ()) = (true, ())) ∧
((!z41) = false →
(True ∧
∀ z44 : Pt,
(z44 = appP z26 p →
∀ z46 : Int,
(z46 = appE z26 p →
(True ∧
∀ z48 : Pt,
(z48 = appP b p →
∀ z50 : Int,
(z50 = appE b p →
(True ∧
∀ z52 : Pt,
(z52 = appP a z48 →
∀ z54 : Int,
(z54 = appE a z48 →
(((decide (z46 = 0)) = true →
 (((decide (z50 = 0)) = true →
  (((decide (z54 = 0)) = true →
   (((decide (z44.M = z52.M)) && ((decide (z44.X.x = z52.X.x)) && ((decide (z44.X.y = z52.X.y)) && ((decide (z44.X.z = z52.X.z)) && true)))), ()) = (true, ())) ∧
  ((decide (z54 = 0)) = false →
  (false, ()) = (true, ())))) ∧
 ((decide (z50 = 0)) = false →
 (false, ()) = (true, ())))) ∧
((decide (z46 = 0)) = false →
(false, ()) = (true, ()))))))))))))))))))))))))))))))))))))))))))))))))))))))))))))))))))))))))))))))))))
theorem r_OpGroups (x : HL C_OpGroups.args) : runs (env [(12, C_awake3), (19, C_opForm.hid), (23, C_opMul.hid), (21, C_opOne), (25, C_opInverse.hid), (33, C_r3Place.hid), (31, C_opApply.hid)] []) 400 10 C_OpGroups x = T_OpGroups x.1 x.2.1 x.2.2.1 x.2.2.2.1 := by kernel_rfl
theorem p_OpGroups (a : Op3) (b : Op3) (c : Op3) (p : Pt) (h0 : (Sh.agg .op).okA a) (h1 : (Sh.agg .op).okA b) (h2 : (Sh.agg .op).okA c) (h3 : (Sh.agg .pt).okA p) : T_OpGroups a b c p := by
  by_cases ha : nilE a = true
  case neg => simp [T_OpGroups, ha]
  by_cases hb : nilE b = true
  case neg =>
    have ha := nil_frm.1 ha
    obtain ⟨a1, a2, a3, a4⟩ := grp_one ha
    simp [T_OpGroups, nil_frm.2 ha, hb, a1, a2, a3, a4, selO]
  by_cases hc : nilE c = true
  case neg =>
    have ha := nil_frm.1 ha
    obtain ⟨a1, a2, a3, a4⟩ := grp_one ha
    have hb := nil_frm.1 hb
    obtain ⟨b1, b2, b3, b4⟩ := grp_one hb
    simp [T_OpGroups, nil_frm.2 ha, nil_frm.2 hb, hc, a1, a2, a3, a4, b1, b2, b3, b4, selO]
  obtain ⟨a1, a2, a3, a4⟩ := grp_one (nil_frm.1 ha)
  obtain ⟨b1, b2, b3, b4⟩ := grp_one (nil_frm.1 hb)
  obtain ⟨c1, c2, c3, c4⟩ := grp_one (nil_frm.1 hc)
  have s0 : ∀ x : Op3, selO 0 x = x := fun x => rfl
  unfold T_OpGroups
  simp only [ha, hb, hc, a1, a2, a3, a4, b1, b2, b3, b4, c1, c2, c3, c4, s0, forall_eq, decide_true, Bool.not_true, Bool.and_true, reduceCtorEq, false_implies, true_and, and_true, forall_const, implies_true]
  have hi := @grp_inv a
  have hp := @grp_app a b p
  have hs := @grp_assoc a b c
  generalize mulE b c = e2 at hs ⊢
  by_cases h1 : mulE a b = 0
  · obtain ⟨_, _, _⟩ := mulE_ok h1
    simp only [h1, s0, decide_true, forall_const, Bool.not_true, reduceCtorEq, false_implies, true_and, and_true] at hp hs ⊢
    by_cases h2 : e2 = 0
    · subst h2
      have hs := hs rfl
      simp only [s0, mulO_assoc, hs, decide_true, forall_const, Bool.not_true, Bool.and_true, reduceCtorEq, false_implies, true_and, and_true]
      by_cases h3 : invE a = 0
      · obtain ⟨_, i1, i2, i3, i4, i5, i6⟩ := hi h3
        simp only [h3, s0, i1, i2, i3, i4, i5, i6, decide_true, forall_const, Bool.not_true, Bool.and_true, reduceCtorEq, false_implies, true_and, and_true]
        by_cases h4 : frmP p = true
        · obtain ⟨p1, p2, p3, p4⟩ := hp h4
          simp [h4, p1, p2, p3, p4]
        · simp [h4]
      · by_cases h4 : frmP p = true
        · obtain ⟨p1, p2, p3, p4⟩ := hp h4
          simp [h3, h4, p1, p2, p3, p4]
        · simp [h3, h4]
    · by_cases h3 : invE a = 0
      · obtain ⟨_, i1, i2, i3, i4, i5, i6⟩ := hi h3
        by_cases h4 : frmP p = true
        · obtain ⟨p1, p2, p3, p4⟩ := hp h4
          simp [h2, h3, s0, i1, i2, i3, i4, i5, i6, h4, p1, p2, p3, p4]
        · simp [h2, h3, s0, i1, i2, i3, i4, i5, i6, h4]
      · by_cases h4 : frmP p = true
        · obtain ⟨p1, p2, p3, p4⟩ := hp h4
          simp [h2, h3, h4, p1, p2, p3, p4]
        · simp [h2, h3, h4]
  · by_cases h3 : invE a = 0
    · obtain ⟨_, i1, i2, i3, i4, i5, i6⟩ := hi h3
      simp [h1, h3, s0, i1, i2, i3, i4, i5, i6]
    · simp [h1, h3]
theorem s_OpGroups : Sound Try.prog 10 C_OpGroups :=
  sound_of_eq (env_ok (.cons s_awake3 (.cons s_opForm.hid (.cons s_opMul.hid (.cons s_opOne (.cons s_opInverse.hid (.cons s_r3Place.hid (.cons s_opApply.hid (.nil))))))))) (fun x => T_OpGroups x.1 x.2.1 x.2.2.1 x.2.2.2.1) r_OpGroups fun x ok hp => p_OpGroups x.1 x.2.1 x.2.2.1 x.2.2.2.1 ok.1 ok.2.1 ok.2.2.1 ok.2.2.2.1
end Go.Fx
