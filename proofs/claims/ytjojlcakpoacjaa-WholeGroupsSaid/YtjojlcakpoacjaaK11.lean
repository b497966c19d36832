/-
  Contracts: WholeGroups.
-/
import Derived.Test.YtjojlcakpoacjaaK10
namespace Go.Fx
open Go Go.Proofs
set_option maxRecDepth 100000
set_option linter.unusedVariables false
set_option linter.unusedSimpArgs false
set_option linter.unusedSectionVars false
noncomputable def C_WholeGroups : Contract := { args := [.list .seed], res := [.bool], pre := fun _ => True, F := fun x => ((true : Bool), ()) }
def T_WholeGroups (l : List Sd) : Prop :=
  (True ∧
∀ z1 : List Op3,
(z1 = cloL ([(Op3.mk ((M3.mk (-1) 0 0 0 (-1) 0 0 0 (-1))) (V3.mk 0 0 0))]) →
∀ z3 : Int,
(z3 = cloE ([(Op3.mk ((M3.mk (-1) 0 0 0 (-1) 0 0 0 (-1))) (V3.mk 0 0 0))]) →
(((!(decide (z3 = 0))) = true →
 (false, ()) = (true, ())) ∧
((!(decide (z3 = 0))) = false →
(((!(decide ((z1.length : Int) = 2))) = true →
 (false, ()) = (true, ())) ∧
((!(decide ((z1.length : Int) = 2))) = false →
(True ∧
∀ z7 : List Op3,
(z7 = sedL l →
(True ∧
∀ z9 : List Op3,
(z9 = cloL z7 →
∀ z11 : Int,
(z11 = cloE z7 →
(frmL z7 ∧
∀ z13 : List Op3,
(z13 = rcL z7 →
∀ z15 : Bool,
(z15 = rcB z7 →
(((!z15) = true →
 (((decide (z11 = 5)) = true →
  ((decide ((z9.length : Int) = 0)), ()) = (true, ())) ∧
 ((decide (z11 = 5)) = false →
 (false, ()) = (true, ())))) ∧
((!z15) = false →
(((!(decide (z11 = 0))) = true →
 (false, ()) = (true, ())) ∧
((!(decide (z11 = 0))) = false →
(((!(decide ((z9.length : Int) = (z13.length : Int)))) = true →
 (false, ()) = (true, ())) ∧
((!(decide ((z9.length : Int) = (z13.length : Int)))) = false →
(True ∧
∀ z20 : Int,
(z20 = chkE z9 →
(((!(decide (z20 = 0))) = true →
 (false, ()) = (true, ())) ∧
((!(decide (z20 = 0))) = false →
(rgP (z13.length : Int) 0 ∧
∀ z23 : Int,
((decide ((-9223372036854775808) ≤ z23)) = true →
((decide (z23 ≤ 9223372036854775807)) = true →
(rgP (z13.length : Int) z23 →
(((decide (z23 < (z13.length : Int))) = true →
 ((atP z9 z13 z23 0 ∧
  ∀ z28 : Int,
  ((decide ((-9223372036854775808) ≤ z28)) = true →
  ((decide (z28 ≤ 9223372036854775807)) = true →
  (atP z9 z13 z23 z28 →
  (((decide (z28 < (z9.length : Int))) = true →
   (inB z9 z28 ∧
   (inB z13 z23 ∧
   (((!((decide ((((z9.getD (z28).toNat zerO)).R).xx = (((z13.getD (z23).toNat zerO)).R).xx)) && ((decide ((((z9.getD (z28).toNat zerO)).R).xy = (((z13.getD (z23).toNat zerO)).R).xy)) && ((decide ((((z9.getD (z28).toNat zerO)).R).xz = (((z13.getD (z23).toNat zerO)).R).xz)) && ((decide ((((z9.getD (z28).toNat zerO)).R).yx = (((z13.getD (z23).toNat zerO)).R).yx)) && ((decide ((((z9.getD (z28).toNat zerO)).R).yy = (((z13.getD (z23).toNat zerO)).R).yy)) && ((decide ((((z9.getD (z28).toNat zerO)).R).yz = (((z13.getD (z23).toNat zerO)).R).yz)) && ((decide ((((z9.getD (z28).toNat zerO)).R).zx = (((z13.getD (z23).toNat zerO)).R).zx)) && ((decide ((((z9.getD (z28).toNat zerO)).R).zy = (((z13.getD (z23).toNat zerO)).R).zy)) && ((decide ((((z9.getD (z28).toNat zerO)).R).zz = (((z13.getD (z23).toNat zerO)).R).zz)) && ((decide ((((z9.getD (z28).toNat zerO)).T).x = (((z13.getD (z23).toNat zerO)).T).x)) && ((decide ((((z9.getD (z28).toNat zerO)).T).y = (((z13.getD (z23).toNat zerO)).T).y)) && ((decide ((((z9.getD (z28).toNat zerO)).T).z = (((z13.getD (z23).toNat zerO)).T).z)) && true))))))))))))) = true →
    (atP z9 z13 z23 ((w64 (z28 + 1))) ∧
    ((decide (0 ≤ opMu z9 ((w64 (z28 + 1))))) = true ∧
    (decide (opMu z9 ((w64 (z28 + 1))) < opMu z9 z28)) = true))) ∧
   ((!((decide ((((z9.getD (z28).toNat zerO)).R).xx = (((z13.getD (z23).toNat zerO)).R).xx)) && ((decide ((((z9.getD (z28).toNat zerO)).R).xy = (((z13.getD (z23).toNat zerO)).R).xy)) && ((decide ((((z9.getD (z28).toNat zerO)).R).xz = (((z13.getD (z23).toNat zerO)).R).xz)) && ((decide ((((z9.getD (z28).toNat zerO)).R).yx = (((z13.getD (z23).toNat zerO)).R).yx)) && ((decide ((((z9.getD (z28).toNat zerO)).R).yy = (((z13.getD (z23).toNat zerO)).R).yy)) && ((decide ((((z9.getD (z28).toNat zerO)).R).yz = (((z13.getD (z23).toNat zerO)).R).yz)) && ((decide ((((z9.getD (z28).toNat zerO)).R).zx = (((z13.getD (z23).toNat zerO)).R).zx)) && ((decide ((((z9.getD (z28).toNat zerO)).R).zy = (((z13.getD (z23).toNat zerO)).R).zy)) && ((decide ((((z9.getD (z28).toNat zerO)).R).zz = (((z13.getD (z23).toNat zerO)).R).zz)) && ((decide ((((z9.getD (z28).toNat zerO)).T).x = (((z13.getD (z23).toNat zerO)).T).x)) && ((decide ((((z9.getD (z28).toNat zerO)).T).y = (((z13.getD (z23).toNat zerO)).T).y)) && ((decide ((((z9.getD (z28).toNat zerO)).T).z = (((z13.getD (z23).toNat zerO)).T).z)) && true))))))))))))) = false →
   ftP z9 z13 z23 z28))))) ∧
  ((decide (z28 < (z9.length : Int))) = false →
  ftP z9 z13 z23 z28)))))) ∧
 ∀ z28 : Int,
 ((decide ((-9223372036854775808) ≤ z28)) = true →
 ((decide (z28 ≤ 9223372036854775807)) = true →
 (ftP z9 z13 z23 z28 →
 ((((decide (z28 = (z9.length : Int))) = true →
   (false, ()) = (true, ())) ∧
  ((decide (z28 = (z9.length : Int))) = false →
  (((decide (0 < z23)) = true →
   (inB z9 ((w64 (z23 - 1))) ∧
   (inB z9 z23 ∧
   (True ∧
   (((decide (0 ≤ cmpO (((z9.getD ((w64 (z23 - 1))).toNat zerO))) (((z9.getD (z23).toNat zerO))))) = true →
    (false, ()) = (true, ())) ∧
   ((decide (0 ≤ cmpO (((z9.getD ((w64 (z23 - 1))).toNat zerO))) (((z9.getD (z23).toNat zerO))))) = false →
   True)))))) ∧
  ((decide (0 < z23)) = false →
  True)))) ∧
 (True →
 (((!(decide ((Int.tmod z23 16) = 0))) = true →
  (rgP (z13.length : Int) ((w64 (z23 + 1))) ∧
  ((decide (0 ≤ opMu z13 ((w64 (z23 + 1))))) = true ∧
  (decide (opMu z13 ((w64 (z23 + 1))) < opMu z13 z23)) = true))) ∧
 ((!(decide ((Int.tmod z23 16) = 0))) = false →
 (inB z13 z23 ∧
 (True ∧
 ∀ z34 : Int,
 (z34 = fndI z9 (((z13.getD (z23).toNat zerO))) →
 ∀ z36 : Int,
 (z36 = fndE z9 (((z13.getD (z23).toNat zerO))) →
 (((!(decide (z36 = 0))) = true →
  (false, ()) = (true, ())) ∧
 ((!(decide (z36 = 0))) = false →
 (((!(decide (z34 = z28))) = true →
  (false, ()) = (true, ())) ∧
 ((!(decide (z34 = z28))) = false →
 (rgP (z13.length : Int) ((w64 (z23 + 1))) ∧
 ((decide (0 ≤ opMu z13 ((w64 (z23 + 1))))) = true ∧
 (decide (opMu z13 ((w64 (z23 + 1))) < opMu z13 z23)) = true))))))))))))))))))) ∧
((decide (z23 < (z13.length : Int))) = false →
(True ∧
∀ z28 : List (List Int),
(z28 = tabL z9 →
∀ z30 : Int,
(z30 = chkE z9 →
(True ∧
∀ z32 : List Int,
(z32 = invL z9 →
∀ z34 : Int,
(z34 = chkE z9 →
(((!(decide (z30 = 0))) = true →
 (false, ()) = (true, ())) ∧
((!(decide (z30 = 0))) = false →
(((!(decide (z34 = 0))) = true →
 (false, ()) = (true, ())) ∧
((!(decide (z34 = 0))) = false →
(((!(decide ((z28.length : Int) = (z9.length : Int)))) = true →
 (false, ()) = (true, ())) ∧
((!(decide ((z28.length : Int) = (z9.length : Int)))) = false →
(((!(decide ((z32.length : Int) = (z9.length : Int)))) = true →
 (false, ()) = (true, ())) ∧
((!(decide ((z32.length : Int) = (z9.length : Int)))) = false →
(rgP (z9.length : Int) 0 ∧
∀ z40 : Int,
((decide ((-9223372036854775808) ≤ z40)) = true →
((decide (z40 ≤ 9223372036854775807)) = true →
(rgP (z9.length : Int) z40 →
(((decide (z40 < (z9.length : Int))) = true →
 (inB z28 z40 ∧
 (((!(decide ((((z28.getD (z40).toNat [])).length : Int) = (z9.length : Int)))) = true →
  (false, ()) = (true, ())) ∧
 ((!(decide ((((z28.getD (z40).toNat [])).length : Int) = (z9.length : Int)))) = false →
 ((leP 0 (z9.length : Int) ∧
  lfit 1 ((lrep (z9.length : Int) false))) ∧
 (snP z9 z40 ((lrep (z9.length : Int) false)) 0 ∧
 ∀ z46 : List Bool,
 ∀ z47 : Int,
 ((decide ((-9223372036854775808) ≤ z47)) = true →
 ((decide (z47 ≤ 9223372036854775807)) = true →
 (snP z9 z40 z46 z47 →
 (eqP (z46.length : Int) ((((lrep (z9.length : Int) false)).length : Int)) →
 (((decide (z47 < (z9.length : Int))) = true →
  (inB z9 z40 ∧
  (inB z9 z47 ∧
  (True ∧
  (inB z28 z40 ∧
  (inB ((z28.getD (z40).toNat [])) z47 ∧
  (((!(decide (mulE (((z9.getD (z40).toNat zerO))) (((z9.getD (z47).toNat zerO))) = 0))) = true →
   (false, ()) = (true, ())) ∧
  ((!(decide (mulE (((z9.getD (z40).toNat zerO))) (((z9.getD (z47).toNat zerO))) = 0))) = false →
  (((decide ((((z28.getD (z40).toNat [])).getD (z47).toNat 0) < 0)) = true →
   (false, ()) = (true, ())) ∧
  ((decide ((((z28.getD (z40).toNat [])).getD (z47).toNat 0) < 0)) = false →
  (((decide ((z9.length : Int) ≤ (((z28.getD (z40).toNat [])).getD (z47).toNat 0))) = true →
   (false, ()) = (true, ())) ∧
  ((decide ((z9.length : Int) ≤ (((z28.getD (z40).toNat [])).getD (z47).toNat 0))) = false →
  (inB z9 ((((z28.getD (z40).toNat [])).getD (z47).toNat 0)) ∧
  (((!((decide ((((z9.getD ((((z28.getD (z40).toNat [])).getD (z47).toNat 0)).toNat zerO)).R).xx = ((selO (mulE (((z9.getD (z40).toNat zerO))) (((z9.getD (z47).toNat zerO)))) (mulO (((z9.getD (z40).toNat zerO))) (((z9.getD (z47).toNat zerO))))).R).xx)) && ((decide ((((z9.getD ((((z28.getD (z40).toNat [])).getD (z47).toNat 0)).toNat zerO)).R).xy = ((selO (mulE (((z9.getD (z40).toNat zerO))) (((z9.getD (z47).toNat zerO)))) (mulO (((z9.getD (z40).toNat zerO))) (((z9.getD (z47).toNat zerO))))).R).xy)) && ((decide ((((z9.getD ((((z28.getD (z40).toNat [])).getD (z47).toNat 0)).toNat zerO)).R).xz = ((selO (mulE (((z9.getD (z40).toNat zerO))) (((z9.getD (z47).toNat zerO)))) (mulO (((z9.getD (z40).toNat zerO))) (((z9.getD (z47).toNat zerO))))).R).xz)) && ((decide ((((z9.getD ((((z28.getD (z40).toNat [])).getD (z47).toNat 0)).toNat zerO)).R).yx = ((selO (mulE (((z9.getD (z40).toNat zerO))) (((z9.getD (z47).toNat zerO)))) (mulO (((z9.getD (z40).toNat zerO))) (((z9.getD (z47).toNat zerO))))).R).yx)) && ((decide ((((z9.getD ((((z28.getD (z40).toNat [])).getD (z47).toNat 0)).toNat zerO)).R).yy = ((selO (mulE (((z9.getD (z40).toNat zerO))) (((z9.getD (z47).toNat zerO)))) (mulO (((z9.getD (z40).toNat zerO))) (((z9.getD (z47).toNat zerO))))).R).yy)) && ((decide ((((z9.getD ((((z28.getD (z40).toNat [])).getD (z47).toNat 0)).toNat zerO)).R).yz = ((selO (mulE (((z9.getD (z40).toNat zerO))) (((z9.getD (z47).toNat zerO)))) (mulO (((z9.getD (z40).toNat zerO))) (((z9.getD (z47).toNat zerO))))).R).yz)) && ((decide ((((z9.getD ((((z28.getD (z40).toNat [])).getD (z47).toNat 0)).toNat zerO)).R).zx = ((selO (mulE (((z9.getD (z40).toNat zerO))) (((z9.getD (z47).toNat zerO)))) (mulO (((z9.getD (z40).toNat zerO))) (((z9.getD (z47).toNat zerO))))).R).zx)) && ((decide ((((z9.getD ((((z28.getD (z40).toNat [])).getD (z47).toNat 0)).toNat zerO)).R).zy = ((selO (mulE (((z9.getD (z40).toNat zerO))) (((z9.getD (z47).toNat zerO)))) (mulO (((z9.getD (z40).toNat zerO))) (((z9.getD (z47).toNat zerO))))).R).zy)) && ((decide ((((z9.getD ((((z28.getD (z40).toNat [])).getD (z47).toNat 0)).toNat zerO)).R).zz = ((selO (mulE (((z9.getD (z40).toNat zerO))) (((z9.getD (z47).toNat zerO)))) (mulO (((z9.getD (z40).toNat zerO))) (((z9.getD (z47).toNat zerO))))).R).zz)) && ((decide ((((z9.getD ((((z28.getD (z40).toNat [])).getD (z47).toNat 0)).toNat zerO)).T).x = ((selO (mulE (((z9.getD (z40).toNat zerO))) (((z9.getD (z47).toNat zerO)))) (mulO (((z9.getD (z40).toNat zerO))) (((z9.getD (z47).toNat zerO))))).T).x)) && ((decide ((((z9.getD ((((z28.getD (z40).toNat [])).getD (z47).toNat 0)).toNat zerO)).T).y = ((selO (mulE (((z9.getD (z40).toNat zerO))) (((z9.getD (z47).toNat zerO)))) (mulO (((z9.getD (z40).toNat zerO))) (((z9.getD (z47).toNat zerO))))).T).y)) && ((decide ((((z9.getD ((((z28.getD (z40).toNat [])).getD (z47).toNat 0)).toNat zerO)).T).z = ((selO (mulE (((z9.getD (z40).toNat zerO))) (((z9.getD (z47).toNat zerO)))) (mulO (((z9.getD (z40).toNat zerO))) (((z9.getD (z47).toNat zerO))))).T).z)) && true))))))))))))) = true →
   (false, ()) = (true, ())) ∧
  ((!((decide ((((z9.getD ((((z28.getD (z40).toNat [])).getD (z47).toNat 0)).toNat zerO)).R).xx = ((selO (mulE (((z9.getD (z40).toNat zerO))) (((z9.getD (z47).toNat zerO)))) (mulO (((z9.getD (z40).toNat zerO))) (((z9.getD (z47).toNat zerO))))).R).xx)) && ((decide ((((z9.getD ((((z28.getD (z40).toNat [])).getD (z47).toNat 0)).toNat zerO)).R).xy = ((selO (mulE (((z9.getD (z40).toNat zerO))) (((z9.getD (z47).toNat zerO)))) (mulO (((z9.getD (z40).toNat zerO))) (((z9.getD (z47).toNat zerO))))).R).xy)) && ((decide ((((z9.getD ((((z28.getD (z40).toNat [])).getD (z47).toNat 0)).toNat zerO)).R).xz = ((selO (mulE (((z9.getD (z40).toNat zerO))) (((z9.getD (z47).toNat zerO)))) (mulO (((z9.getD (z40).toNat zerO))) (((z9.getD (z47).toNat zerO))))).R).xz)) && ((decide ((((z9.getD ((((z28.getD (z40).toNat [])).getD (z47).toNat 0)).toNat zerO)).R).yx = ((selO (mulE (((z9.getD (z40).toNat zerO))) (((z9.getD (z47).toNat zerO)))) (mulO (((z9.getD (z40).toNat zerO))) (((z9.getD (z47).toNat zerO))))).R).yx)) && ((decide ((((z9.getD ((((z28.getD (z40).toNat [])).getD (z47).toNat 0)).toNat zerO)).R).yy = ((selO (mulE (((z9.getD (z40).toNat zerO))) (((z9.getD (z47).toNat zerO)))) (mulO (((z9.getD (z40).toNat zerO))) (((z9.getD (z47).toNat zerO))))).R).yy)) && ((decide ((((z9.getD ((((z28.getD (z40).toNat [])).getD (z47).toNat 0)).toNat zerO)).R).yz = ((selO (mulE (((z9.getD (z40).toNat zerO))) (((z9.getD (z47).toNat zerO)))) (mulO (((z9.getD (z40).toNat zerO))) (((z9.getD (z47).toNat zerO))))).R).yz)) && ((decide ((((z9.getD ((((z28.getD (z40).toNat [])).getD (z47).toNat 0)).toNat zerO)).R).zx = ((selO (mulE (((z9.getD (z40).toNat zerO))) (((z9.getD (z47).toNat zerO)))) (mulO (((z9.getD (z40).toNat zerO))) (((z9.getD (z47).toNat zerO))))).R).zx)) && ((decide ((((z9.getD ((((z28.getD (z40).toNat [])).getD (z47).toNat 0)).toNat zerO)).R).zy = ((selO (mulE (((z9.getD (z40).toNat zerO))) (((z9.getD (z47).toNat zerO)))) (mulO (((z9.getD (z40).toNat zerO))) (((z9.getD (z47).toNat zerO))))).R).zy)) && ((decide ((((z9.getD ((((z28.getD (z40).toNat [])).getD (z47).toNat 0)).toNat zerO)).R).zz = ((selO (mulE (((z9.getD (z40).toNat zerO))) (((z9.getD (z47).toNat zerO)))) (mulO (((z9.getD (z40).toNat zerO))) (((z9.getD (z47).toNat zerO))))).R).zz)) && ((decide ((((z9.getD ((((z28.getD (z40).toNat [])).getD (z47).toNat 0)).toNat zerO)).T).x = ((selO (mulE (((z9.getD (z40).toNat zerO))) (((z9.getD (z47).toNat zerO)))) (mulO (((z9.getD (z40).toNat zerO))) (((z9.getD (z47).toNat zerO))))).T).x)) && ((decide ((((z9.getD ((((z28.getD (z40).toNat [])).getD (z47).toNat 0)).toNat zerO)).T).y = ((selO (mulE (((z9.getD (z40).toNat zerO))) (((z9.getD (z47).toNat zerO)))) (mulO (((z9.getD (z40).toNat zerO))) (((z9.getD (z47).toNat zerO))))).T).y)) && ((decide ((((z9.getD ((((z28.getD (z40).toNat [])).getD (z47).toNat 0)).toNat zerO)).T).z = ((selO (mulE (((z9.getD (z40).toNat zerO))) (((z9.getD (z47).toNat zerO)))) (mulO (((z9.getD (z40).toNat zerO))) (((z9.getD (z47).toNat zerO))))).T).z)) && true))))))))))))) = false →
  (inB z46 ((((z28.getD (z40).toNat [])).getD (z47).toNat 0)) ∧
  (((z46.getD ((((z28.getD (z40).toNat [])).getD (z47).toNat 0)).toNat false) = true →
   (false, ()) = (true, ())) ∧
  ((z46.getD ((((z28.getD (z40).toNat [])).getD (z47).toNat 0)).toNat false) = false →
  (inB z46 ((((z28.getD (z40).toNat [])).getD (z47).toNat 0)) ∧
  (snP z9 z40 (lset z46 ((((z28.getD (z40).toNat [])).getD (z47).toNat 0)) true) ((w64 (z47 + 1))) ∧
  ((decide (0 ≤ opMu z9 ((w64 (z47 + 1))))) = true ∧
  (decide (opMu z9 ((w64 (z47 + 1))) < opMu z9 z47)) = true))))))))))))))))))))) ∧
 ((decide (z47 < (z9.length : Int))) = false →
 (inB z32 z40 ∧
 (((decide ((z32.getD (z40).toNat 0) < 0)) = true →
  (false, ()) = (true, ())) ∧
 ((decide ((z32.getD (z40).toNat 0) < 0)) = false →
 (inB z32 z40 ∧
 (((decide ((z9.length : Int) ≤ (z32.getD (z40).toNat 0))) = true →
  (false, ()) = (true, ())) ∧
 ((decide ((z9.length : Int) ≤ (z32.getD (z40).toNat 0))) = false →
 (inB z28 z40 ∧
 (inB z32 z40 ∧
 (inB ((z28.getD (z40).toNat [])) ((z32.getD (z40).toNat 0)) ∧
 (inB z9 ((((z28.getD (z40).toNat [])).getD ((z32.getD (z40).toNat 0)).toNat 0)) ∧
 (True ∧
 (((!((decide ((((z9.getD ((((z28.getD (z40).toNat [])).getD ((z32.getD (z40).toNat 0)).toNat 0)).toNat zerO)).R).xx = oneO.R.xx)) && ((decide ((((z9.getD ((((z28.getD (z40).toNat [])).getD ((z32.getD (z40).toNat 0)).toNat 0)).toNat zerO)).R).xy = oneO.R.xy)) && ((decide ((((z9.getD ((((z28.getD (z40).toNat [])).getD ((z32.getD (z40).toNat 0)).toNat 0)).toNat zerO)).R).xz = oneO.R.xz)) && ((decide ((((z9.getD ((((z28.getD (z40).toNat [])).getD ((z32.getD (z40).toNat 0)).toNat 0)).toNat zerO)).R).yx = oneO.R.yx)) && ((decide ((((z9.getD ((((z28.getD (z40).toNat [])).getD ((z32.getD (z40).toNat 0)).toNat 0)).toNat zerO)).R).yy = oneO.R.yy)) && ((decide ((((z9.getD ((((z28.getD (z40).toNat [])).getD ((z32.getD (z40).toNat 0)).toNat 0)).toNat zerO)).R).yz = oneO.R.yz)) && ((decide ((((z9.getD ((((z28.getD (z40).toNat [])).getD ((z32.getD (z40).toNat 0)).toNat 0)).toNat zerO)).R).zx = oneO.R.zx)) && ((decide ((((z9.getD ((((z28.getD (z40).toNat [])).getD ((z32.getD (z40).toNat 0)).toNat 0)).toNat zerO)).R).zy = oneO.R.zy)) && ((decide ((((z9.getD ((((z28.getD (z40).toNat [])).getD ((z32.getD (z40).toNat 0)).toNat 0)).toNat zerO)).R).zz = oneO.R.zz)) && ((decide ((((z9.getD ((((z28.getD (z40).toNat [])).getD ((z32.getD (z40).toNat 0)).toNat 0)).toNat zerO)).T).x = oneO.T.x)) && ((decide ((((z9.getD ((((z28.getD (z40).toNat [])).getD ((z32.getD (z40).toNat 0)).toNat 0)).toNat zerO)).T).y = oneO.T.y)) && ((decide ((((z9.getD ((((z28.getD (z40).toNat [])).getD ((z32.getD (z40).toNat 0)).toNat 0)).toNat zerO)).T).z = oneO.T.z)) && true))))))))))))) = true →
  (false, ()) = (true, ())) ∧
 ((!((decide ((((z9.getD ((((z28.getD (z40).toNat [])).getD ((z32.getD (z40).toNat 0)).toNat 0)).toNat zerO)).R).xx = oneO.R.xx)) && ((decide ((((z9.getD ((((z28.getD (z40).toNat [])).getD ((z32.getD (z40).toNat 0)).toNat 0)).toNat zerO)).R).xy = oneO.R.xy)) && ((decide ((((z9.getD ((((z28.getD (z40).toNat [])).getD ((z32.getD (z40).toNat 0)).toNat 0)).toNat zerO)).R).xz = oneO.R.xz)) && ((decide ((((z9.getD ((((z28.getD (z40).toNat [])).getD ((z32.getD (z40).toNat 0)).toNat 0)).toNat zerO)).R).yx = oneO.R.yx)) && ((decide ((((z9.getD ((((z28.getD (z40).toNat [])).getD ((z32.getD (z40).toNat 0)).toNat 0)).toNat zerO)).R).yy = oneO.R.yy)) && ((decide ((((z9.getD ((((z28.getD (z40).toNat [])).getD ((z32.getD (z40).toNat 0)).toNat 0)).toNat zerO)).R).yz = oneO.R.yz)) && ((decide ((((z9.getD ((((z28.getD (z40).toNat [])).getD ((z32.getD (z40).toNat 0)).toNat 0)).toNat zerO)).R).zx = oneO.R.zx)) && ((decide ((((z9.getD ((((z28.getD (z40).toNat [])).getD ((z32.getD (z40).toNat 0)).toNat 0)).toNat zerO)).R).zy = oneO.R.zy)) && ((decide ((((z9.getD ((((z28.getD (z40).toNat [])).getD ((z32.getD (z40).toNat 0)).toNat 0)).toNat zerO)).R).zz = oneO.R.zz)) && ((decide ((((z9.getD ((((z28.getD (z40).toNat [])).getD ((z32.getD (z40).toNat 0)).toNat 0)).toNat zerO)).T).x = oneO.T.x)) && ((decide ((((z9.getD ((((z28.getD (z40).toNat [])).getD ((z32.getD (z40).toNat 0)).toNat 0)).toNat zerO)).T).y = oneO.T.y)) && ((decide ((((z9.getD ((((z28.getD (z40).toNat [])).getD ((z32.getD (z40).toNat 0)).toNat 0)).toNat zerO)).T).z = oneO.T.z)) && true))))))))))))) = false →
 (rgP (z9.length : Int) ((w64 (z40 + 1))) ∧
 ((decide (0 ≤ opMu z9 ((w64 (z40 + 1))))) = true ∧
 (decide (opMu z9 ((w64 (z40 + 1))) < opMu z9 z40)) = true))))))))))))))))))))))))))) ∧
((decide (z40 < (z9.length : Int))) = false →
(True ∧
∀ z45 : List M3,
(z45 = rotL z9 →
∀ z47 : Int,
(z47 = chkE z9 →
(True ∧
∀ z49 : List V3,
(z49 = cenL z9 →
∀ z51 : Int,
(z51 = chkE z9 →
(True ∧
∀ z53 : List Op3,
(z53 = cloL z9 →
∀ z55 : Int,
(z55 = cloE z9 →
(((decide (z47 = 0)) = true →
 (((decide (z51 = 0)) = true →
  (((decide (z55 = 0)) = true →
   (((decide ((w64 (((z45.length : Int) * (z49.length : Int)))) = (z9.length : Int))) = true →
    (True ∧
    ∀ z61 : Bool,
    (z61 = smO z53 z9 →
    (z61, ()) = (true, ())))) ∧
   ((decide ((w64 (((z45.length : Int) * (z49.length : Int)))) = (z9.length : Int))) = false →
   (false, ()) = (true, ())))) ∧
  ((decide (z55 = 0)) = false →
  (false, ()) = (true, ())))) ∧
 ((decide (z51 = 0)) = false →
 (false, ()) = (true, ())))) ∧
((decide (z47 = 0)) = false →
(false, ()) = (true, ())))))))))))))))))))))))))))))))))))))))))))))))))))))))))))))))
theorem r_WholeGroups (x : HL C_WholeGroups.args) : runs (env0 [(13, C_seeds.hid), (14, C_gClose.hid), (15, C_tclosure.hid), (16, C_gCheck.hid), (17, C_opCompare.hid), (18, C_gFind.hid), (19, C_gTable.hid), (20, C_gInverses.hid), (21, C_opMul.hid), (22, C_opOne), (23, C_gRotations.hid), (24, C_gCentring.hid), (25, C_tsame.hid)] [(4, 12, { fix := [(.tmp 6, .list .op), (.tmp 8, .list .op)], vars := [(.tmp 10, .int .i64)], inv := fun y v => rgP (lenI y.2.1) v.1, mu := fun y v => opMu y.2.1 v.1 }), (4, 15, { fix := [(.tmp 6, .list .op), (.tmp 8, .list .op), (.tmp 10, .int .i64)], vars := [(.tmp 11, .int .i64)], inv := fun y v => atP y.1 y.2.1 y.2.2.1 v.1, mu := fun y v => opMu y.1 v.1 }), (4, 28, { fix := [(.tmp 6, .list .op)], vars := [(.tmp 18, .int .i64)], inv := fun y v => rgP (lenI y.1) v.1, mu := fun y v => opMu y.1 v.1 }), (4, 34, { fix := [(.tmp 6, .list .op), (.tmp 18, .int .i64)], vars := [(.itmp 19, .list .bool), (.tmp 20, .int .i64)], inv := fun y v => snP y.1 y.2.1 v.1 v.2.1, mu := fun y v => opMu y.1 v.2.1 })] [(4, 17, { fix := [(.tmp 6, .list .op), (.tmp 8, .list .op), (.tmp 10, .int .i64)], vars := [(.tmp 11, .int .i64)], inv := fun y v => ftP y.1 y.2.1 y.2.2.1 v.1, mu := fun y v => 0 }), (4, 19, { fix := [], vars := [], inv := fun y v => True, mu := fun y v => 0 })]) 400 4 C_WholeGroups x = T_WholeGroups x.1 := by kernel_rfl
theorem p_WholeGroups (l : List Sd) (h0 : (Sh.list .seed).okA l) : T_WholeGroups l := by
  have h3l := sedL_len l
  unfold T_WholeGroups
  simp only [eqOc']
  refine ⟨trivial, fun a1 h1 e1 k1 => ⟨fun h => absurd h (by rw [k1]; decide +kernel), fun _ => ⟨fun h => absurd h (by rw [h1]; decide +kernel), fun _ => ⟨trivial, fun li hli => ⟨trivial, fun g hg e he => ⟨?_, fun a ha b hb => ?_⟩⟩⟩⟩⟩⟩
  · rw [hli]
    exact ⟨errL_zero.2 fun o ho => errO_ok.2 (sedL_frm l o ho), by omega⟩
  have hz : gE li = 0 := by rw [hli]; exact sed_gE l
  obtain ⟨d1, d2⟩ := clo_doc li
  have hs : cloL li = rcS li := d1.trans (by unfold dclL; rw [if_pos hz])
  have hE : cloE li = if rcB li = true then 0 else 5 := d2.trans (by unfold dclE; rw [if_pos hz])
  rcases (rc_cases li).symm with ⟨c1, c2, c3⟩ | ⟨c1, c2⟩
  · have hg0 : g = [] := by rw [hg, hs, c2]
    have e5 : e = 5 := by rw [he, hE, c1]; rfl
    refine ⟨fun _ => ⟨fun _ => by rw [hg0]; rfl, fun h => absurd h (by rw [e5]; decide)⟩, fun h => absurd h (by rw [hb, c1]; decide)⟩
  have hce : cloE li = 0 := by rw [hE, c1]; rfl
  have hI : IsG li g := by rw [hg]; exact clo_isG hce
  have hc : chkE g = 0 := isG_chk hI
  have hgl : g.length ≤ 192 := hI.len
  have hperm : g.Perm a := by rw [hg, hs, c2, ha]; exact insO_perm _
  have hlen : g.length = a.length := hperm.length_eq
  have hin : ∀ i : Int, inB a i → a.getD i.toNat zerO ∈ g := fun i hi => hperm.mem_iff.2 (getD_mem hi.1 hi.2 zerO)
  obtain ⟨hF, hnd, hone, hcl⟩ := chk_grp hc
  have hgb : g.length * 96 ≤ room := Nat.le_trans (Nat.mul_le_mul_right 96 hgl) (by decide)
  have hab : a.length * 96 ≤ room := by rw [← hlen]; exact hgb
  have hbnd : ∀ k : Int, 0 ≤ k → k < 192 → w64 (k + 1) = k + 1 := fun k k0 hk => w64_id (by omega) (by omega)
  refine ⟨fun h => absurd h (by rw [hb, c1]; decide), fun _ => ⟨fun h => absurd h (by rw [he, hce]; decide), fun _ => ⟨fun h => absurd h (by rw [hlen]; simp), fun _ => ⟨trivial, fun ck hck => ⟨fun h => absurd h (by rw [hck, hc]; decide), fun _ => ⟨rg_init a, fun i _ _ hA => ⟨fun hi => ?_, fun _ => ⟨trivial, fun tb htb e6 he6 => ⟨trivial, fun iv hiv e7 he7 => ?_⟩⟩⟩⟩⟩⟩⟩⟩⟩
  · have hi := of_decide_eq_true hi
    have i0 := hA.1
    obtain ⟨q1, q2, q3⟩ := opMu_next hab i0 hi
    have nx : rgP (a.length : Int) (w64 (i + 1)) ∧ (decide (0 ≤ opMu a (w64 (i + 1))) = true ∧ decide (opMu a (w64 (i + 1)) < opMu a i) = true) := ⟨by rw [q1]; exact ⟨by omega, by omega⟩, q2, q3⟩
    have hmem := hin i ⟨i0, hi⟩
    have hidx := idxD_mem hmem
    refine ⟨⟨⟨Int.le_refl _, by omega, fun k hk => by simp at hk⟩, fun t _ _ hT => ⟨fun ht => ?_, fun ht => ?_⟩⟩, fun t _ _ hT => ⟨⟨fun h => ?_, fun _ => ⟨fun h => ?_, fun _ => trivial⟩⟩, fun _ => ⟨fun _ => nx, fun _ => ⟨⟨i0, hi⟩, trivial, fun x hx y hy => ⟨fun h => absurd h (by rw [hy, (fnd_idx hc hmem).2]; decide), fun _ => ⟨fun h => absurd (ndt h) (by rw [hx, (fnd_idx hc hmem).1, show t = _ from hT]; exact fun c => c rfl), fun _ => nx⟩⟩⟩⟩⟩⟩
    · have ht := of_decide_eq_true ht
      have t0 := hT.1
      refine ⟨⟨t0, ht⟩, ⟨i0, hi⟩, fun h => ?_, fun h => ?_⟩
      · obtain ⟨z1, z2, z3⟩ := id_next (b := 96) (by decide) hgb hT ht zerO (ndt h)
        obtain ⟨y1, y2, y3⟩ := opMu_next hgb t0 ht
        exact ⟨z1, y2, y3⟩
      · exact (id_hit hT ht zerO (ndf h)).symm
    · have : idxO g (a.getD i.toNat zerO) = -1 := id_miss hT (of_decide_eq_false ht)
      have h2 : idxO g (a.getD i.toNat zerO) = idxD g (a.getD i.toNat zerO) := rfl
      omega
    · have h := of_decide_eq_true h
      have hT : t = idxD g (a.getD i.toNat zerO) := hT
      omega
    · have h := of_decide_eq_true h
      have hig : i < (g.length : Int) := by omega
      rw [w64_id (x := i - 1) (by omega) (by omega)]
      refine ⟨⟨by omega, by omega⟩, ⟨i0, hig⟩, trivial, fun c => absurd (of_decide_eq_true c) (by have := st_prev2 hc h hig; omega), fun _ => trivial⟩
  · have htl := tab_len hc
    have hil := inv_len hc
    subst htb hiv
    refine ⟨fun h => absurd h (by rw [he6, hc]; decide), fun _ => ⟨fun h => absurd h (by rw [he7, hc]; decide), fun _ => ⟨fun h => absurd h (by rw [htl]; simp), fun _ => ⟨fun h => absurd h (by rw [hil]; simp), fun _ => ⟨rg_init g, fun i _ _ hA => ⟨fun hi => ?_, fun _ => ⟨trivial, fun r hr e8 he8 => ⟨trivial, fun cn hcn e9 he9 => ⟨trivial, fun g2 hg2 e10 he10 => ?_⟩⟩⟩⟩⟩⟩⟩⟩⟩
    · have hi := of_decide_eq_true hi
      have i0 := hA.1
      have hiB : inB g i := ⟨i0, hi⟩
      obtain ⟨q1, q2, q3⟩ := opMu_next hgb i0 hi
      have hrow := tab_at hc hiB
      have hai := getD_mem i0 hi zerO
      obtain ⟨v1, v2, v3⟩ := inv_at hc hiB
      rw [hrow]
      have hrl : (rowO g (g.getD i.toNat zerO)).length = g.length := rowO_len _ _
      refine ⟨⟨i0, by omega⟩, fun h => absurd h (by rw [hrl]; simp), fun _ => ⟨⟨by show (0 : Int) ≤ _; omega, ?_⟩, sn_init g i, fun s j _ _ hS hls => ⟨fun hj => ?_, fun _ => ?_⟩⟩⟩
      · show (lrep (g.length : Int) false).length * 1 ≤ 140737488355328
        unfold lrep; rw [List.length_replicate]; omega
      · have hj := of_decide_eq_true hj
        have j0 := hS.1
        have hjB : inB g j := ⟨j0, hj⟩
        have haj := getD_mem j0 hj zerO
        obtain ⟨⟨x0, x1⟩, x2⟩ := row_in hc hai hjB
        have hmE := mulE_in hc hai haj
        have hnew := sn_new hc hS hiB hj
        have hnx := sn_next hS hj rfl x0 x1
        have hsl : s.length = g.length := hS.2.2.1
        obtain ⟨y1, y2, y3⟩ := opMu_next hgb j0 hj
        have hsel : selO (mulE (g.getD i.toNat zerO) (g.getD j.toNat zerO)) (mulO (g.getD i.toNat zerO) (g.getD j.toNat zerO)) = mulO (g.getD i.toNat zerO) (g.getD j.toNat zerO) := by unfold selO; rw [if_pos hmE]
        rw [hsel, x2, hmE, hnew]
        rw [y1] at y2 y3 ⊢
        exact ⟨hiB, hjB, trivial, ⟨i0, by omega⟩, ⟨j0, by omega⟩, fun h => absurd h (by decide), fun _ => ⟨fun h => absurd (of_decide_eq_true h) (by omega), fun _ => ⟨fun h => absurd (of_decide_eq_true h) (by omega), fun _ => ⟨⟨x0, x1⟩, fun h => absurd h (by simp), fun _ => ⟨⟨x0, by omega⟩, fun h => absurd h (by decide), fun _ => ⟨⟨x0, by omega⟩, hnx, y2, y3⟩⟩⟩⟩⟩⟩
      · have hvB : inB g ((invL g).getD i.toNat 0) := ⟨v1.1, v1.2⟩
        obtain ⟨⟨x0, x1⟩, x2⟩ := row_in hc hai hvB
        have hone2 : g.getD ((rowO g (g.getD i.toNat zerO)).getD ((invL g).getD i.toNat 0).toNat 0).toNat zerO = oneO := by rw [x2, v2]; exact (inv_mul (hF _ hai)).1
        rw [hone2]
        exact ⟨⟨i0, by omega⟩, fun h => absurd (of_decide_eq_true h) (by omega), fun _ => ⟨⟨i0, by omega⟩, fun h => absurd (of_decide_eq_true h) (by omega), fun _ => ⟨⟨i0, by omega⟩, ⟨i0, by omega⟩, ⟨v1.1, by omega⟩, ⟨x0, x1⟩, trivial, fun h => absurd h (by simp), fun _ => ⟨by rw [q1]; exact ⟨by omega, by omega⟩, q2, q3⟩⟩⟩⟩
    · have hrc := rot_cen hI
      obtain ⟨w1, w2⟩ := isG_clo hI (gE_of hgl hF) fun x => isG_self hI x
      rw [he8, he9, he10, w2, hc, hr, hcn, hg2, w1, ← Int.natCast_mul, hrc, w64_id (by omega) (by omega)]
      refine ⟨fun _ => ⟨fun _ => ⟨fun _ => ⟨fun _ => ⟨trivial, fun b hb2 => by rw [hb2, smO_self]⟩, fun h => absurd h (by simp)⟩, fun h => absurd h (by decide)⟩, fun h => absurd h (by decide)⟩, fun h => absurd h (by decide)⟩
theorem s_WholeGroups : Sound Try.prog 4 C_WholeGroups :=
  sound_of_eq (env0_ok (.cons s_seeds.hid (.cons s_gClose.hid (.cons s_tclosure.hid (.cons s_gCheck.hid (.cons s_opCompare.hid (.cons s_gFind.hid (.cons s_gTable.hid (.cons s_gInverses.hid (.cons s_opMul.hid (.cons s_opOne (.cons s_gRotations.hid (.cons s_gCentring.hid (.cons s_tsame.hid (.nil))))))))))))))) (fun x => T_WholeGroups x.1) r_WholeGroups fun x ok hp => p_WholeGroups x.1 ok.1
end Go.Fx
