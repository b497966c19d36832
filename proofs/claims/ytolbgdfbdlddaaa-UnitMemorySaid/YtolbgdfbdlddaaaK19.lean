/-
  Contracts: UnitMemory.
-/
import Derived.Test.YtolbgdfbdlddaaaK18
import Derived.Test.YtolbgdfbdlddaaaSe
namespace Go.Fx
open Go Go.Proofs
set_option maxRecDepth 100000
set_option linter.unusedVariables false
set_option linter.unusedSimpArgs false
set_option linter.unusedSectionVars false
noncomputable def C_UnitMemory : Contract := { args := [.list .op, .agg .vec], res := [.bool], pre := fun x => rchO x.1, F := fun x => ((true : Bool), ()) }
def T_UnitMemory (g : List Op3) (n : V3) : Prop :=
  (True ∧
∀ z2 : Bool,
(z2 = true →
(((!z2) = true →
 (false, ()) = (true, ())) ∧
((!z2) = false →
(True ∧
∀ z5 : Bool,
(z5 = fewB n →
(((!z5) = true →
 (true, ()) = (true, ())) ∧
((!z5) = false →
((leP 0 (g.length : Int) ∧
 (leP (g.length : Int) (((g.length : Int) + 1)) ∧
 lfit 96 ((lrep (((g.length : Int) + 1)) (zerO))))) ∧
(True ∧
(leP (((g.length : Int) + (([(Op3.mk zerO.R (V3.mk 5 5 5))]).length : Int))) (((lput ((lrep (((g.length : Int) + 1)) (zerO))) 0 (lsub g 0 (zmin (g.length : Int) (g.length : Int)))).length : Int)) ∧
(True ∧
∀ z8 : List V3,
(z8 = fiL (lsub (lput (lput ((lrep (((g.length : Int) + 1)) (zerO))) 0 (lsub g 0 (zmin (g.length : Int) (g.length : Int)))) (g.length : Int) ([(Op3.mk zerO.R (V3.mk 5 5 5))])) 0 (g.length : Int)) n →
∀ z10 : List Int,
(z10 = ciL (lsub (lput (lput ((lrep (((g.length : Int) + 1)) (zerO))) 0 (lsub g 0 (zmin (g.length : Int) (g.length : Int)))) (g.length : Int) ([(Op3.mk zerO.R (V3.mk 5 5 5))])) 0 (g.length : Int)) n →
∀ z12 : Int,
(z12 = fuE (lsub (lput (lput ((lrep (((g.length : Int) + 1)) (zerO))) 0 (lsub g 0 (zmin (g.length : Int) (g.length : Int)))) (g.length : Int) ([(Op3.mk zerO.R (V3.mk 5 5 5))])) 0 (g.length : Int)) n →
(True ∧
∀ z14 : List V3,
(z14 = fiL (lsub (lput (lput ((lrep (((g.length : Int) + 1)) (zerO))) 0 (lsub g 0 (zmin (g.length : Int) (g.length : Int)))) (g.length : Int) ([(Op3.mk zerO.R (V3.mk 5 5 5))])) 0 (g.length : Int)) n →
∀ z16 : List Int,
(z16 = ciL (lsub (lput (lput ((lrep (((g.length : Int) + 1)) (zerO))) 0 (lsub g 0 (zmin (g.length : Int) (g.length : Int)))) (g.length : Int) ([(Op3.mk zerO.R (V3.mk 5 5 5))])) 0 (g.length : Int)) n →
∀ z18 : Int,
(z18 = fuE (lsub (lput (lput ((lrep (((g.length : Int) + 1)) (zerO))) 0 (lsub g 0 (zmin (g.length : Int) (g.length : Int)))) (g.length : Int) ([(Op3.mk zerO.R (V3.mk 5 5 5))])) 0 (g.length : Int)) n →
(True ∧
∀ z20 : List Int,
(z20 = owL (lsub (lput (lput ((lrep (((g.length : Int) + 1)) (zerO))) 0 (lsub g 0 (zmin (g.length : Int) (g.length : Int)))) (g.length : Int) ([(Op3.mk zerO.R (V3.mk 5 5 5))])) 0 (g.length : Int)) n →
∀ z22 : Int,
(z22 = fuE (lsub (lput (lput ((lrep (((g.length : Int) + 1)) (zerO))) 0 (lsub g 0 (zmin (g.length : Int) (g.length : Int)))) (g.length : Int) ([(Op3.mk zerO.R (V3.mk 5 5 5))])) 0 (g.length : Int)) n →
(True ∧
∀ z24 : List Int,
(z24 = owL (lsub (lput (lput ((lrep (((g.length : Int) + 1)) (zerO))) 0 (lsub g 0 (zmin (g.length : Int) (g.length : Int)))) (g.length : Int) ([(Op3.mk zerO.R (V3.mk 5 5 5))])) 0 (g.length : Int)) n →
∀ z26 : Int,
(z26 = fuE (lsub (lput (lput ((lrep (((g.length : Int) + 1)) (zerO))) 0 (lsub g 0 (zmin (g.length : Int) (g.length : Int)))) (g.length : Int) ([(Op3.mk zerO.R (V3.mk 5 5 5))])) 0 (g.length : Int)) n →
(True ∧
∀ z28 : List Int,
(z28 = fxL (lsub (lput (lput ((lrep (((g.length : Int) + 1)) (zerO))) 0 (lsub g 0 (zmin (g.length : Int) (g.length : Int)))) (g.length : Int) ([(Op3.mk zerO.R (V3.mk 5 5 5))])) 0 (g.length : Int)) n →
∀ z30 : Int,
(z30 = fuE (lsub (lput (lput ((lrep (((g.length : Int) + 1)) (zerO))) 0 (lsub g 0 (zmin (g.length : Int) (g.length : Int)))) (g.length : Int) ([(Op3.mk zerO.R (V3.mk 5 5 5))])) 0 (g.length : Int)) n →
(True ∧
∀ z32 : List Int,
(z32 = fxL (lsub (lput (lput ((lrep (((g.length : Int) + 1)) (zerO))) 0 (lsub g 0 (zmin (g.length : Int) (g.length : Int)))) (g.length : Int) ([(Op3.mk zerO.R (V3.mk 5 5 5))])) 0 (g.length : Int)) n →
∀ z34 : Int,
(z34 = fuE (lsub (lput (lput ((lrep (((g.length : Int) + 1)) (zerO))) 0 (lsub g 0 (zmin (g.length : Int) (g.length : Int)))) (g.length : Int) ([(Op3.mk zerO.R (V3.mk 5 5 5))])) 0 (g.length : Int)) n →
(rgP (g.length : Int) 0 ∧
∀ z36 : Int,
((decide ((-9223372036854775808) ≤ z36)) = true →
((decide (z36 ≤ 9223372036854775807)) = true →
(rgP (g.length : Int) z36 →
(((decide (z36 < (g.length : Int))) = true →
 (inR z36 (((g.length : Int) + (([(Op3.mk zerO.R (V3.mk 5 5 5))]).length : Int))) ∧
 (inB g z36 ∧
 (((!((decide (((((lput (lput ((lrep (((g.length : Int) + 1)) (zerO))) 0 (lsub g 0 (zmin (g.length : Int) (g.length : Int)))) (g.length : Int) ([(Op3.mk zerO.R (V3.mk 5 5 5))])).getD (z36).toNat zerO)).R).xx = (((g.getD (z36).toNat zerO)).R).xx)) && ((decide (((((lput (lput ((lrep (((g.length : Int) + 1)) (zerO))) 0 (lsub g 0 (zmin (g.length : Int) (g.length : Int)))) (g.length : Int) ([(Op3.mk zerO.R (V3.mk 5 5 5))])).getD (z36).toNat zerO)).R).xy = (((g.getD (z36).toNat zerO)).R).xy)) && ((decide (((((lput (lput ((lrep (((g.length : Int) + 1)) (zerO))) 0 (lsub g 0 (zmin (g.length : Int) (g.length : Int)))) (g.length : Int) ([(Op3.mk zerO.R (V3.mk 5 5 5))])).getD (z36).toNat zerO)).R).xz = (((g.getD (z36).toNat zerO)).R).xz)) && ((decide (((((lput (lput ((lrep (((g.length : Int) + 1)) (zerO))) 0 (lsub g 0 (zmin (g.length : Int) (g.length : Int)))) (g.length : Int) ([(Op3.mk zerO.R (V3.mk 5 5 5))])).getD (z36).toNat zerO)).R).yx = (((g.getD (z36).toNat zerO)).R).yx)) && ((decide (((((lput (lput ((lrep (((g.length : Int) + 1)) (zerO))) 0 (lsub g 0 (zmin (g.length : Int) (g.length : Int)))) (g.length : Int) ([(Op3.mk zerO.R (V3.mk 5 5 5))])).getD (z36).toNat zerO)).R).yy = (((g.getD (z36).toNat zerO)).R).yy)) && ((decide (((((lput (lput ((lrep (((g.length : Int) + 1)) (zerO))) 0 (lsub g 0 (zmin (g.length : Int) (g.length : Int)))) (g.length : Int) ([(Op3.mk zerO.R (V3.mk 5 5 5))])).getD (z36).toNat zerO)).R).yz = (((g.getD (z36).toNat zerO)).R).yz)) && ((decide (((((lput (lput ((lrep (((g.length : Int) + 1)) (zerO))) 0 (lsub g 0 (zmin (g.length : Int) (g.length : Int)))) (g.length : Int) ([(Op3.mk zerO.R (V3.mk 5 5 5))])).getD (z36).toNat zerO)).R).zx = (((g.getD (z36).toNat zerO)).R).zx)) && ((decide (((((lput (lput ((lrep (((g.length : Int) + 1)) (zerO))) 0 (lsub g 0 (zmin (g.length : Int) (g.length : Int)))) (g.length : Int) ([(Op3.mk zerO.R (V3.mk 5 5 5))])).getD (z36).toNat zerO)).R).zy = (((g.getD (z36).toNat zerO)).R).zy)) && ((decide (((((lput (lput ((lrep (((g.length : Int) + 1)) (zerO))) 0 (lsub g 0 (zmin (g.length : Int) (g.length : Int)))) (g.length : Int) ([(Op3.mk zerO.R (V3.mk 5 5 5))])).getD (z36).toNat zerO)).R).zz = (((g.getD (z36).toNat zerO)).R).zz)) && ((decide (((((lput (lput ((lrep (((g.length : Int) + 1)) (zerO))) 0 (lsub g 0 (zmin (g.length : Int) (g.length : Int)))) (g.length : Int) ([(Op3.mk zerO.R (V3.mk 5 5 5))])).getD (z36).toNat zerO)).T).x = (((g.getD (z36).toNat zerO)).T).x)) && ((decide (((((lput (lput ((lrep (((g.length : Int) + 1)) (zerO))) 0 (lsub g 0 (zmin (g.length : Int) (g.length : Int)))) (g.length : Int) ([(Op3.mk zerO.R (V3.mk 5 5 5))])).getD (z36).toNat zerO)).T).y = (((g.getD (z36).toNat zerO)).T).y)) && ((decide (((((lput (lput ((lrep (((g.length : Int) + 1)) (zerO))) 0 (lsub g 0 (zmin (g.length : Int) (g.length : Int)))) (g.length : Int) ([(Op3.mk zerO.R (V3.mk 5 5 5))])).getD (z36).toNat zerO)).T).z = (((g.getD (z36).toNat zerO)).T).z)) && true))))))))))))) = true →
  (false, ()) = (true, ())) ∧
 ((!((decide (((((lput (lput ((lrep (((g.length : Int) + 1)) (zerO))) 0 (lsub g 0 (zmin (g.length : Int) (g.length : Int)))) (g.length : Int) ([(Op3.mk zerO.R (V3.mk 5 5 5))])).getD (z36).toNat zerO)).R).xx = (((g.getD (z36).toNat zerO)).R).xx)) && ((decide (((((lput (lput ((lrep (((g.length : Int) + 1)) (zerO))) 0 (lsub g 0 (zmin (g.length : Int) (g.length : Int)))) (g.length : Int) ([(Op3.mk zerO.R (V3.mk 5 5 5))])).getD (z36).toNat zerO)).R).xy = (((g.getD (z36).toNat zerO)).R).xy)) && ((decide (((((lput (lput ((lrep (((g.length : Int) + 1)) (zerO))) 0 (lsub g 0 (zmin (g.length : Int) (g.length : Int)))) (g.length : Int) ([(Op3.mk zerO.R (V3.mk 5 5 5))])).getD (z36).toNat zerO)).R).xz = (((g.getD (z36).toNat zerO)).R).xz)) && ((decide (((((lput (lput ((lrep (((g.length : Int) + 1)) (zerO))) 0 (lsub g 0 (zmin (g.length : Int) (g.length : Int)))) (g.length : Int) ([(Op3.mk zerO.R (V3.mk 5 5 5))])).getD (z36).toNat zerO)).R).yx = (((g.getD (z36).toNat zerO)).R).yx)) && ((decide (((((lput (lput ((lrep (((g.length : Int) + 1)) (zerO))) 0 (lsub g 0 (zmin (g.length : Int) (g.length : Int)))) (g.length : Int) ([(Op3.mk zerO.R (V3.mk 5 5 5))])).getD (z36).toNat zerO)).R).yy = (((g.getD (z36).toNat zerO)).R).yy)) && ((decide (((((lput (lput ((lrep (((g.length : Int) + 1)) (zerO))) 0 (lsub g 0 (zmin (g.length : Int) (g.length : Int)))) (g.length : Int) ([(Op3.mk zerO.R (V3.mk 5 5 5))])).getD (z36).toNat zerO)).R).yz = (((g.getD (z36).toNat zerO)).R).yz)) && ((decide (((((lput (lput ((lrep (((g.length : Int) + 1)) (zerO))) 0 (lsub g 0 (zmin (g.length : Int) (g.length : Int)))) (g.length : Int) ([(Op3.mk zerO.R (V3.mk 5 5 5))])).getD (z36).toNat zerO)).R).zx = (((g.getD (z36).toNat zerO)).R).zx)) && ((decide (((((lput (lput ((lrep (((g.length : Int) + 1)) (zerO))) 0 (lsub g 0 (zmin (g.length : Int) (g.length : Int)))) (g.length : Int) ([(Op3.mk zerO.R (V3.mk 5 5 5))])).getD (z36).toNat zerO)).R).zy = (((g.getD (z36).toNat zerO)).R).zy)) && ((decide (((((lput (lput ((lrep (((g.length : Int) + 1)) (zerO))) 0 (lsub g 0 (zmin (g.length : Int) (g.length : Int)))) (g.length : Int) ([(Op3.mk zerO.R (V3.mk 5 5 5))])).getD (z36).toNat zerO)).R).zz = (((g.getD (z36).toNat zerO)).R).zz)) && ((decide (((((lput (lput ((lrep (((g.length : Int) + 1)) (zerO))) 0 (lsub g 0 (zmin (g.length : Int) (g.length : Int)))) (g.length : Int) ([(Op3.mk zerO.R (V3.mk 5 5 5))])).getD (z36).toNat zerO)).T).x = (((g.getD (z36).toNat zerO)).T).x)) && ((decide (((((lput (lput ((lrep (((g.length : Int) + 1)) (zerO))) 0 (lsub g 0 (zmin (g.length : Int) (g.length : Int)))) (g.length : Int) ([(Op3.mk zerO.R (V3.mk 5 5 5))])).getD (z36).toNat zerO)).T).y = (((g.getD (z36).toNat zerO)).T).y)) && ((decide (((((lput (lput ((lrep (((g.length : Int) + 1)) (zerO))) 0 (lsub g 0 (zmin (g.length : Int) (g.length : Int)))) (g.length : Int) ([(Op3.mk zerO.R (V3.mk 5 5 5))])).getD (z36).toNat zerO)).T).z = (((g.getD (z36).toNat zerO)).T).z)) && true))))))))))))) = false →
 (rgP (g.length : Int) ((w64 (z36 + 1))) ∧
 ((decide (0 ≤ rgMu (g.length : Int) ((w64 (z36 + 1))))) = true ∧
 (decide (rgMu (g.length : Int) ((w64 (z36 + 1))) < rgMu (g.length : Int) z36)) = true))))))) ∧
((decide (z36 < (g.length : Int))) = false →
(inR (g.length : Int) (((g.length : Int) + (([(Op3.mk zerO.R (V3.mk 5 5 5))]).length : Int))) ∧
(((!(decide (((((lput (lput ((lrep (((g.length : Int) + 1)) (zerO))) 0 (lsub g 0 (zmin (g.length : Int) (g.length : Int)))) (g.length : Int) ([(Op3.mk zerO.R (V3.mk 5 5 5))])).getD ((g.length : Int)).toNat zerO)).T).x = 5))) = true →
 (false, ()) = (true, ())) ∧
((!(decide (((((lput (lput ((lrep (((g.length : Int) + 1)) (zerO))) 0 (lsub g 0 (zmin (g.length : Int) (g.length : Int)))) (g.length : Int) ([(Op3.mk zerO.R (V3.mk 5 5 5))])).getD ((g.length : Int)).toNat zerO)).T).x = 5))) = false →
(rgP (z8.length : Int) 0 ∧
∀ z42 : List V3,
∀ z43 : Int,
((decide ((-9223372036854775808) ≤ z43)) = true →
((decide (z43 ≤ 9223372036854775807)) = true →
(rgP (z42.length : Int) z43 →
(eqP (z42.length : Int) (z8.length : Int) →
(((decide (z43 < (z8.length : Int))) = true →
 (inB z42 z43 ∧
 (rgP (((lset z42 z43 ((V3.mk (-1) (-1) (-1)))).length : Int)) ((w64 (z43 + 1))) ∧
 ((decide (0 ≤ inW (lset z42 z43 ((V3.mk (-1) (-1) (-1)))) ((w64 (z43 + 1))))) = true ∧
 (decide (inW (lset z42 z43 ((V3.mk (-1) (-1) (-1)))) ((w64 (z43 + 1))) < inW z42 z43)) = true)))) ∧
((decide (z43 < (z8.length : Int))) = false →
(rgP (z10.length : Int) 0 ∧
∀ z49 : List Int,
∀ z50 : Int,
((decide ((-9223372036854775808) ≤ z50)) = true →
((decide (z50 ≤ 9223372036854775807)) = true →
(rgP (z49.length : Int) z50 →
(eqP (z49.length : Int) (z10.length : Int) →
(((decide (z50 < (z10.length : Int))) = true →
 (inB z49 z50 ∧
 (rgP (((lset z49 z50 (-7)).length : Int)) ((w64 (z50 + 1))) ∧
 ((decide (0 ≤ inMu (lset z49 z50 (-7)) ((w64 (z50 + 1))))) = true ∧
 (decide (inMu (lset z49 z50 (-7)) ((w64 (z50 + 1))) < inMu z49 z50)) = true)))) ∧
((decide (z50 < (z10.length : Int))) = false →
(lfit 8 (lapp z49 ([1, 2])) ∧
(((!(decide (((lapp z49 ([1, 2])).length : Int) = ((z49.length : Int) + 2)))) = true →
 (false, ()) = (true, ())) ∧
((!(decide (((lapp z49 ([1, 2])).length : Int) = ((z49.length : Int) + 2)))) = false →
(rgP (z20.length : Int) 0 ∧
∀ z57 : List Int,
∀ z58 : Int,
((decide ((-9223372036854775808) ≤ z58)) = true →
((decide (z58 ≤ 9223372036854775807)) = true →
(rgP (z57.length : Int) z58 →
(eqP (z57.length : Int) (z20.length : Int) →
(((decide (z58 < (z20.length : Int))) = true →
 (inB z57 z58 ∧
 (rgP (((lset z57 z58 (-7)).length : Int)) ((w64 (z58 + 1))) ∧
 ((decide (0 ≤ inMu (lset z57 z58 (-7)) ((w64 (z58 + 1))))) = true ∧
 (decide (inMu (lset z57 z58 (-7)) ((w64 (z58 + 1))) < inMu z57 z58)) = true)))) ∧
((decide (z58 < (z20.length : Int))) = false →
(lfit 8 (lapp z57 ([1, 2])) ∧
(((!(decide (((lapp z57 ([1, 2])).length : Int) = ((z57.length : Int) + 2)))) = true →
 (false, ()) = (true, ())) ∧
((!(decide (((lapp z57 ([1, 2])).length : Int) = ((z57.length : Int) + 2)))) = false →
(rgP (z28.length : Int) 0 ∧
∀ z65 : List Int,
∀ z66 : Int,
((decide ((-9223372036854775808) ≤ z66)) = true →
((decide (z66 ≤ 9223372036854775807)) = true →
(rgP (z65.length : Int) z66 →
(eqP (z65.length : Int) (z28.length : Int) →
(((decide (z66 < (z28.length : Int))) = true →
 (inB z65 z66 ∧
 (rgP (((lset z65 z66 (-7)).length : Int)) ((w64 (z66 + 1))) ∧
 ((decide (0 ≤ inMu (lset z65 z66 (-7)) ((w64 (z66 + 1))))) = true ∧
 (decide (inMu (lset z65 z66 (-7)) ((w64 (z66 + 1))) < inMu z65 z66)) = true)))) ∧
((decide (z66 < (z28.length : Int))) = false →
(lfit 8 (lapp z65 ([1, 2])) ∧
(((!(decide (((lapp z65 ([1, 2])).length : Int) = ((z65.length : Int) + 2)))) = true →
 (false, ()) = (true, ())) ∧
((!(decide (((lapp z65 ([1, 2])).length : Int) = ((z65.length : Int) + 2)))) = false →
(True ∧
∀ z73 : List V3,
(z73 = fiL g n →
∀ z75 : List Int,
(z75 = ciL g n →
∀ z77 : Int,
(z77 = fuE g n →
(True ∧
∀ z79 : List Int,
(z79 = owL g n →
∀ z81 : Int,
(z81 = fuE g n →
(True ∧
∀ z83 : List Int,
(z83 = fxL g n →
∀ z85 : Int,
(z85 = fuE g n →
(True ∧
∀ z87 : Bool,
(z87 = smW z14 z73 →
((z87 = true →
 (True ∧
 ∀ z90 : Bool,
 (z90 = smI z16 z75 →
 ((z90 = true →
  (True ∧
  ∀ z93 : Bool,
  (z93 = smI z24 z79 →
  ((z93 = true →
   (True ∧
   ∀ z96 : Bool,
   (z96 = smI z32 z83 →
   (z96, ()) = (true, ())))) ∧
  (z93 = false →
  (false, ()) = (true, ())))))) ∧
 (z90 = false →
 (false, ()) = (true, ())))))) ∧
(z87 = false →
(false, ()) = (true, ()))))))))))))))))))))))))))))))))))))))))))))))))))))))))))))))))))))))))))))))))))))))))))))
theorem r_UnitMemory (x : HL C_UnitMemory.args) : runs (env0 [(13, C_awake10.hid), (18, C_few10.hid), (19, C_uFirsts.hid), (20, C_uOwner.hid), (24, C_uFixed.hid), (25, C_r10DocFirsts.hid), (27, C_r10DocOwner.hid), (28, C_r10DocFixed.hid), (23, C_ints10.hid), (26, C_vecs10.hid)] [(8, 15, { fix := [(.tmp 0, .list .op)], vars := [(.tmp 93, .int .i64)], inv := fun y v => rgP (lenI y.1) v.1, mu := fun y v => rgMu (lenI y.1) v.1 }), (8, 23, { fix := [], vars := [(.itmp 7, .list .vec), (.tmp 116, .int .i64)], inv := fun y v => rgP (lenI v.1) v.2.1, mu := fun y v => inW v.1 v.2.1 }), (8, 31, { fix := [], vars := [(.itmp 24, .list .int), (.tmp 135, .int .i64)], inv := fun y v => rgP (lenI v.1) v.2.1, mu := fun y v => inMu v.1 v.2.1 })] []) 1500 8 C_UnitMemory x = T_UnitMemory x.1 x.2.1 := by kernel_rfl
theorem p_UnitMemory (g : List Op3) (n : V3) (h0 : (Sh.list .op).okA g) (h1 : (Sh.agg .vec).okA n) (hp : rchO g) : T_UnitMemory g n := by
  unfold T_UnitMemory
  have hg : g.length * 96 ≤ 140737488351232 := hp
  have n1 := spareL0 g zerO 1 (by decide)
  have g1 : ([Op3.mk zerO.R (V3.mk 5 5 5)].length : Int) = 1 := rfl
  rw [spareL g [Op3.mk zerO.R (V3.mk 5 5 5)] zerO 1 rfl, spare_sub, n1, spare_0, g1]
  have hlen : (fiL g n).length ≤ 262144 ∧ (ciL g n).length ≤ 262144 ∧ (owL g n).length ≤ 262144 ∧ (fxL g n).length ≤ 262144 := by
    by_cases h0 : fuE g n = 0
    · obtain ⟨a1, a2, a3, a4⟩ := ans_ok h0
      obtain ⟨hck, hn, hs, hfB, _⟩ := fu_zero h0
      have hpl := pl_pos hs
      have hgl := chk_len hck
      obtain ⟨l1, l2, l3⟩ := fs_lenP (g := g) (n := n)
      have hP2 : plN n ≤ 262144 := by unfold plN; omega
      rw [a1, a2, a3, a4, l1, l2, or_len, List.length_map]
      exact ⟨by omega, by omega, hP2, by omega⟩
    · obtain ⟨a1, a2, a3, a4⟩ := ans_no h0
      rw [a1, a2, a3, a4]
      simp
  obtain ⟨b1, b2, b3, b4⟩ := hlen
  have dW : ∀ (l m : List V3) (c : Bool), l = m → c = smW l m → c = true := fun l m c h hc => by rw [hc, h]; simp [smW]
  have dI : ∀ (l m : List Int) (c : Bool), l = m → c = smI l m → c = true := fun l m c h hc => by rw [hc, h]; simp [smI]
  have step : ∀ (q t : List Int) (k : Int), q.length ≤ 262144 → rgP (t.length : Int) k → eqP (t.length : Int) (q.length : Int) → (decide (k < (q.length : Int)) = true →
      (inB t k ∧ (rgP (((lset t k (-7)).length : Int)) (w64 (k + 1)) ∧ (decide (0 ≤ inMu (lset t k (-7)) (w64 (k + 1))) = true ∧ decide (inMu (lset t k (-7)) (w64 (k + 1)) < inMu t k) = true)))) ∧
      lfit 8 (lapp t [1, 2]) ∧ ¬ (!decide (((lapp t [1, 2]).length : Int) = (t.length : Int) + 2)) = true := fun q t k hq hK hlk => by
    have hlk : (t.length : Int) = (q.length : Int) := hlk
    refine ⟨fun hk => ?_, ?_, ?_⟩
    · have hk := of_decide_eq_true hk
      have k0 := hK.1
      have e1 : w64 (k + 1) = k + 1 := w64_id (by omega) (by omega)
      rw [e1]
      exact ⟨⟨k0, by omega⟩, ⟨by omega, by rw [lset_len]; omega⟩, decide_eq_true (by unfold inMu; rw [lset_len]; omega), decide_eq_true (by unfold inMu; rw [lset_len]; omega)⟩
    · show (t ++ [_, _]).length * 8 ≤ 140737488355328
      rw [List.length_append]; simp only [List.length_cons, List.length_nil]; omega
    · unfold lapp
      rw [List.length_append]; simp
  refine ⟨trivial, fun z hz => ⟨fun h => absurd (hz ▸ h) (by decide), fun _ => ⟨trivial, fun fw hfw => ⟨fun _ => by trivial, fun _ => ⟨⟨by show (0 : Int) ≤ _; omega, by show (_ : Int) ≤ _; omega, ?_⟩, trivial, by show (_ : Int) ≤ _; omega, trivial, fun f hf c hc e he => ⟨trivial, fun f' hf' c' hc' e' he' => ⟨trivial, fun a ha u hu => ⟨trivial, fun a' ha' u' hu' => ⟨trivial, fun y hy v hv => ⟨trivial, fun y' hy' v' hv' => ⟨rg_init g, fun i _ _ hI => ⟨fun hi => ?_, fun _ => ⟨⟨by omega, by omega⟩, fun h => absurd h (by decide), fun _ => ⟨rg_init f, fun t0 k0 _ _ hK0 hlk0 => ⟨fun hk0 => ?_, fun _ => ⟨rg_init c, fun t k _ _ hK hlk => ⟨(step c t k (by rw [hc]; exact b2) hK hlk).1, fun _ => ⟨(step c t k (by rw [hc]; exact b2) hK hlk).2.1, fun h => absurd h (step c t k (by rw [hc]; exact b2) hK hlk).2.2, fun _ => ⟨rg_init a, fun t2 k2 _ _ hK2 hlk2 => ⟨(step a t2 k2 (by rw [ha]; exact b3) hK2 hlk2).1, fun _ => ⟨(step a t2 k2 (by rw [ha]; exact b3) hK2 hlk2).2.1, fun h => absurd h (step a t2 k2 (by rw [ha]; exact b3) hK2 hlk2).2.2, fun _ => ⟨rg_init y, fun t3 k3 _ _ hK3 hlk3 => ⟨(step y t3 k3 (by rw [hy]; exact b4) hK3 hlk3).1, fun _ => ⟨(step y t3 k3 (by rw [hy]; exact b4) hK3 hlk3).2.1, fun h => absurd h (step y t3 k3 (by rw [hy]; exact b4) hK3 hlk3).2.2, fun _ => ⟨trivial, fun w hw x hx r hr => ⟨trivial, fun s hs r2 hr2 => ⟨trivial, fun p hp2 r3 hr3 => ⟨trivial, fun c1 hc1 => ⟨fun _ => ⟨trivial, fun c2 hc2 => ⟨fun _ => ⟨trivial, fun c3 hc3 => ⟨fun _ => ⟨trivial, fun c4 hc4 => by rw [dI _ _ _ (hy'.trans hp2.symm) hc4]⟩, fun h => absurd h (by rw [dI _ _ _ (ha'.trans hs.symm) hc3]; decide)⟩⟩, fun h => absurd h (by rw [dI _ _ _ (hc'.trans hx.symm) hc2]; decide)⟩⟩, fun h => absurd h (by rw [dW _ _ _ (hf'.trans hw.symm) hc1]; decide)⟩⟩⟩⟩⟩⟩⟩⟩⟩⟩⟩⟩⟩⟩⟩⟩⟩⟩⟩⟩⟩⟩⟩⟩⟩⟩⟩⟩⟩
  · show (lrep ((g.length : Int) + 1) zerO).length * 96 ≤ 140737488355328
    unfold lrep; rw [List.length_replicate]; omega
  · have hi := of_decide_eq_true hi
    rw [spare_at _ _ _ hI.1 hi, eqOc']
    exact ⟨⟨hI.1, by omega⟩, ⟨hI.1, hi⟩, fun h => absurd h (by simp), fun _ => rg_next (by omega) hI hi⟩
  · have hk := of_decide_eq_true hk0
    have hlk : (t0.length : Int) = (f.length : Int) := hlk0
    have k0' := hK0.1
    have hfl : f.length ≤ 262144 := by rw [hf]; exact b1
    have e1 : w64 (k0 + 1) = k0 + 1 := w64_id (by omega) (by omega)
    rw [e1]
    exact ⟨⟨k0', by omega⟩, ⟨by omega, by rw [lset_len]; omega⟩, decide_eq_true (by unfold inW; rw [lset_len]; omega), decide_eq_true (by unfold inW; rw [lset_len]; omega)⟩
theorem s_UnitMemory : Sound Try.prog 8 C_UnitMemory :=
  sound_of_eq (env0_ok (.cons s_awake10.hid (.cons s_few10.hid (.cons s_uFirsts.hid (.cons s_uOwner.hid (.cons s_uFixed.hid (.cons s_r10DocFirsts.hid (.cons s_r10DocOwner.hid (.cons s_r10DocFixed.hid (.cons s_ints10.hid (.cons s_vecs10.hid (.nil)))))))))))) (fun x => T_UnitMemory x.1 x.2.1) r_UnitMemory fun x ok hp => p_UnitMemory x.1 x.2.1 ok.1 ok.2.1 hp
end Go.Fx
