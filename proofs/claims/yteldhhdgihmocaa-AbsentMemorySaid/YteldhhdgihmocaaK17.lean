/-
  Contracts: AbsentMemory.
-/
import Derived.Test.YteldhhdgihmocaaK16
import Derived.Test.YteldhhdgihmocaaSe
namespace Go.Fx
open Go Go.Proofs
set_option maxRecDepth 100000
set_option linter.unusedVariables false
set_option linter.unusedSimpArgs false
set_option linter.unusedSectionVars false
noncomputable def C_AbsentMemory : Contract := { args := [.list .op, .list .vec], res := [.bool], pre := fun x => rchO x.1 ∧ rchV x.2.1, F := fun x => ((true : Bool), ()) }
def T_AbsentMemory (g : List Op3) (l : List V3) : Prop :=
  (True ∧
∀ z2 : Bool,
(z2 = true →
(((!z2) = true →
 (false, ()) = (true, ())) ∧
((!z2) = false →
((leP 0 (g.length : Int) ∧
 (leP (g.length : Int) (((g.length : Int) + 1)) ∧
 lfit 96 ((lrep (((g.length : Int) + 1)) (zerO))))) ∧
(True ∧
(leP (((g.length : Int) + (([(Op3.mk zerO.R (V3.mk 5 5 5))]).length : Int))) (((lput ((lrep (((g.length : Int) + 1)) (zerO))) 0 (lsub g 0 (zmin (g.length : Int) (g.length : Int)))).length : Int)) ∧
((leP 0 (l.length : Int) ∧
 (leP (l.length : Int) (((l.length : Int) + 2)) ∧
 lfit 24 ((lrep (((l.length : Int) + 2)) (V3.mk 0 0 0))))) ∧
(True ∧
(leP (((l.length : Int) + (([(V3.mk 6 6 6), (V3.mk 7 7 7)]).length : Int))) (((lput ((lrep (((l.length : Int) + 2)) (V3.mk 0 0 0))) 0 (lsub l 0 (zmin (l.length : Int) (l.length : Int)))).length : Int)) ∧
(True ∧
∀ z5 : List V3,
(z5 = srP (lsub (lput (lput ((lrep (((g.length : Int) + 1)) (zerO))) 0 (lsub g 0 (zmin (g.length : Int) (g.length : Int)))) (g.length : Int) ([(Op3.mk zerO.R (V3.mk 5 5 5))])) 0 (g.length : Int)) (lsub (lput (lput ((lrep (((l.length : Int) + 2)) (V3.mk 0 0 0))) 0 (lsub l 0 (zmin (l.length : Int) (l.length : Int)))) (l.length : Int) ([(V3.mk 6 6 6), (V3.mk 7 7 7)])) 0 (l.length : Int)) →
∀ z7 : List V3,
(z7 = srA (lsub (lput (lput ((lrep (((g.length : Int) + 1)) (zerO))) 0 (lsub g 0 (zmin (g.length : Int) (g.length : Int)))) (g.length : Int) ([(Op3.mk zerO.R (V3.mk 5 5 5))])) 0 (g.length : Int)) (lsub (lput (lput ((lrep (((l.length : Int) + 2)) (V3.mk 0 0 0))) 0 (lsub l 0 (zmin (l.length : Int) (l.length : Int)))) (l.length : Int) ([(V3.mk 6 6 6), (V3.mk 7 7 7)])) 0 (l.length : Int)) →
∀ z9 : Int,
(z9 = abE (lsub (lput (lput ((lrep (((g.length : Int) + 1)) (zerO))) 0 (lsub g 0 (zmin (g.length : Int) (g.length : Int)))) (g.length : Int) ([(Op3.mk zerO.R (V3.mk 5 5 5))])) 0 (g.length : Int)) (lsub (lput (lput ((lrep (((l.length : Int) + 2)) (V3.mk 0 0 0))) 0 (lsub l 0 (zmin (l.length : Int) (l.length : Int)))) (l.length : Int) ([(V3.mk 6 6 6), (V3.mk 7 7 7)])) 0 (l.length : Int)) →
(True ∧
∀ z11 : List V3,
(z11 = srP (lsub (lput (lput ((lrep (((g.length : Int) + 1)) (zerO))) 0 (lsub g 0 (zmin (g.length : Int) (g.length : Int)))) (g.length : Int) ([(Op3.mk zerO.R (V3.mk 5 5 5))])) 0 (g.length : Int)) (lsub (lput (lput ((lrep (((l.length : Int) + 2)) (V3.mk 0 0 0))) 0 (lsub l 0 (zmin (l.length : Int) (l.length : Int)))) (l.length : Int) ([(V3.mk 6 6 6), (V3.mk 7 7 7)])) 0 (l.length : Int)) →
∀ z13 : List V3,
(z13 = srA (lsub (lput (lput ((lrep (((g.length : Int) + 1)) (zerO))) 0 (lsub g 0 (zmin (g.length : Int) (g.length : Int)))) (g.length : Int) ([(Op3.mk zerO.R (V3.mk 5 5 5))])) 0 (g.length : Int)) (lsub (lput (lput ((lrep (((l.length : Int) + 2)) (V3.mk 0 0 0))) 0 (lsub l 0 (zmin (l.length : Int) (l.length : Int)))) (l.length : Int) ([(V3.mk 6 6 6), (V3.mk 7 7 7)])) 0 (l.length : Int)) →
∀ z15 : Int,
(z15 = abE (lsub (lput (lput ((lrep (((g.length : Int) + 1)) (zerO))) 0 (lsub g 0 (zmin (g.length : Int) (g.length : Int)))) (g.length : Int) ([(Op3.mk zerO.R (V3.mk 5 5 5))])) 0 (g.length : Int)) (lsub (lput (lput ((lrep (((l.length : Int) + 2)) (V3.mk 0 0 0))) 0 (lsub l 0 (zmin (l.length : Int) (l.length : Int)))) (l.length : Int) ([(V3.mk 6 6 6), (V3.mk 7 7 7)])) 0 (l.length : Int)) →
(rgP (g.length : Int) 0 ∧
∀ z17 : Int,
((decide ((-9223372036854775808) ≤ z17)) = true →
((decide (z17 ≤ 9223372036854775807)) = true →
(rgP (g.length : Int) z17 →
(((decide (z17 < (g.length : Int))) = true →
 (inR z17 (((g.length : Int) + (([(Op3.mk zerO.R (V3.mk 5 5 5))]).length : Int))) ∧
 (inB g z17 ∧
 (((!((decide (((((lput (lput ((lrep (((g.length : Int) + 1)) (zerO))) 0 (lsub g 0 (zmin (g.length : Int) (g.length : Int)))) (g.length : Int) ([(Op3.mk zerO.R (V3.mk 5 5 5))])).getD (z17).toNat zerO)).R).xx = (((g.getD (z17).toNat zerO)).R).xx)) && ((decide (((((lput (lput ((lrep (((g.length : Int) + 1)) (zerO))) 0 (lsub g 0 (zmin (g.length : Int) (g.length : Int)))) (g.length : Int) ([(Op3.mk zerO.R (V3.mk 5 5 5))])).getD (z17).toNat zerO)).R).xy = (((g.getD (z17).toNat zerO)).R).xy)) && ((decide (((((lput (lput ((lrep (((g.length : Int) + 1)) (zerO))) 0 (lsub g 0 (zmin (g.length : Int) (g.length : Int)))) (g.length : Int) ([(Op3.mk zerO.R (V3.mk 5 5 5))])).getD (z17).toNat zerO)).R).xz = (((g.getD (z17).toNat zerO)).R).xz)) && ((decide (((((lput (lput ((lrep (((g.length : Int) + 1)) (zerO))) 0 (lsub g 0 (zmin (g.length : Int) (g.length : Int)))) (g.length : Int) ([(Op3.mk zerO.R (V3.mk 5 5 5))])).getD (z17).toNat zerO)).R).yx = (((g.getD (z17).toNat zerO)).R).yx)) && ((decide (((((lput (lput ((lrep (((g.length : Int) + 1)) (zerO))) 0 (lsub g 0 (zmin (g.length : Int) (g.length : Int)))) (g.length : Int) ([(Op3.mk zerO.R (V3.mk 5 5 5))])).getD (z17).toNat zerO)).R).yy = (((g.getD (z17).toNat zerO)).R).yy)) && ((decide (((((lput (lput ((lrep (((g.length : Int) + 1)) (zerO))) 0 (lsub g 0 (zmin (g.length : Int) (g.length : Int)))) (g.length : Int) ([(Op3.mk zerO.R (V3.mk 5 5 5))])).getD (z17).toNat zerO)).R).yz = (((g.getD (z17).toNat zerO)).R).yz)) && ((decide (((((lput (lput ((lrep (((g.length : Int) + 1)) (zerO))) 0 (lsub g 0 (zmin (g.length : Int) (g.length : Int)))) (g.length : Int) ([(Op3.mk zerO.R (V3.mk 5 5 5))])).getD (z17).toNat zerO)).R).zx = (((g.getD (z17).toNat zerO)).R).zx)) && ((decide (((((lput (lput ((lrep (((g.length : Int) + 1)) (zerO))) 0 (lsub g 0 (zmin (g.length : Int) (g.length : Int)))) (g.length : Int) ([(Op3.mk zerO.R (V3.mk 5 5 5))])).getD (z17).toNat zerO)).R).zy = (((g.getD (z17).toNat zerO)).R).zy)) && ((decide (((((lput (lput ((lrep (((g.length : Int) + 1)) (zerO))) 0 (lsub g 0 (zmin (g.length : Int) (g.length : Int)))) (g.length : Int) ([(Op3.mk zerO.R (V3.mk 5 5 5))])).getD (z17).toNat zerO)).R).zz = (((g.getD (z17).toNat zerO)).R).zz)) && ((decide (((((lput (lput ((lrep (((g.length : Int) + 1)) (zerO))) 0 (lsub g 0 (zmin (g.length : Int) (g.length : Int)))) (g.length : Int) ([(Op3.mk zerO.R (V3.mk 5 5 5))])).getD (z17).toNat zerO)).T).x = (((g.getD (z17).toNat zerO)).T).x)) && ((decide (((((lput (lput ((lrep (((g.length : Int) + 1)) (zerO))) 0 (lsub g 0 (zmin (g.length : Int) (g.length : Int)))) (g.length : Int) ([(Op3.mk zerO.R (V3.mk 5 5 5))])).getD (z17).toNat zerO)).T).y = (((g.getD (z17).toNat zerO)).T).y)) && ((decide (((((lput (lput ((lrep (((g.length : Int) + 1)) (zerO))) 0 (lsub g 0 (zmin (g.length : Int) (g.length : Int)))) (g.length : Int) ([(Op3.mk zerO.R (V3.mk 5 5 5))])).getD (z17).toNat zerO)).T).z = (((g.getD (z17).toNat zerO)).T).z)) && true))))))))))))) = true →
  (false, ()) = (true, ())) ∧
 ((!((decide (((((lput (lput ((lrep (((g.length : Int) + 1)) (zerO))) 0 (lsub g 0 (zmin (g.length : Int) (g.length : Int)))) (g.length : Int) ([(Op3.mk zerO.R (V3.mk 5 5 5))])).getD (z17).toNat zerO)).R).xx = (((g.getD (z17).toNat zerO)).R).xx)) && ((decide (((((lput (lput ((lrep (((g.length : Int) + 1)) (zerO))) 0 (lsub g 0 (zmin (g.length : Int) (g.length : Int)))) (g.length : Int) ([(Op3.mk zerO.R (V3.mk 5 5 5))])).getD (z17).toNat zerO)).R).xy = (((g.getD (z17).toNat zerO)).R).xy)) && ((decide (((((lput (lput ((lrep (((g.length : Int) + 1)) (zerO))) 0 (lsub g 0 (zmin (g.length : Int) (g.length : Int)))) (g.length : Int) ([(Op3.mk zerO.R (V3.mk 5 5 5))])).getD (z17).toNat zerO)).R).xz = (((g.getD (z17).toNat zerO)).R).xz)) && ((decide (((((lput (lput ((lrep (((g.length : Int) + 1)) (zerO))) 0 (lsub g 0 (zmin (g.length : Int) (g.length : Int)))) (g.length : Int) ([(Op3.mk zerO.R (V3.mk 5 5 5))])).getD (z17).toNat zerO)).R).yx = (((g.getD (z17).toNat zerO)).R).yx)) && ((decide (((((lput (lput ((lrep (((g.length : Int) + 1)) (zerO))) 0 (lsub g 0 (zmin (g.length : Int) (g.length : Int)))) (g.length : Int) ([(Op3.mk zerO.R (V3.mk 5 5 5))])).getD (z17).toNat zerO)).R).yy = (((g.getD (z17).toNat zerO)).R).yy)) && ((decide (((((lput (lput ((lrep (((g.length : Int) + 1)) (zerO))) 0 (lsub g 0 (zmin (g.length : Int) (g.length : Int)))) (g.length : Int) ([(Op3.mk zerO.R (V3.mk 5 5 5))])).getD (z17).toNat zerO)).R).yz = (((g.getD (z17).toNat zerO)).R).yz)) && ((decide (((((lput (lput ((lrep (((g.length : Int) + 1)) (zerO))) 0 (lsub g 0 (zmin (g.length : Int) (g.length : Int)))) (g.length : Int) ([(Op3.mk zerO.R (V3.mk 5 5 5))])).getD (z17).toNat zerO)).R).zx = (((g.getD (z17).toNat zerO)).R).zx)) && ((decide (((((lput (lput ((lrep (((g.length : Int) + 1)) (zerO))) 0 (lsub g 0 (zmin (g.length : Int) (g.length : Int)))) (g.length : Int) ([(Op3.mk zerO.R (V3.mk 5 5 5))])).getD (z17).toNat zerO)).R).zy = (((g.getD (z17).toNat zerO)).R).zy)) && ((decide (((((lput (lput ((lrep (((g.length : Int) + 1)) (zerO))) 0 (lsub g 0 (zmin (g.length : Int) (g.length : Int)))) (g.length : Int) ([(Op3.mk zerO.R (V3.mk 5 5 5))])).getD (z17).toNat zerO)).R).zz = (((g.getD (z17).toNat zerO)).R).zz)) && ((decide (((((lput (lput ((lrep (((g.length : Int) + 1)) (zerO))) 0 (lsub g 0 (zmin (g.length : Int) (g.length : Int)))) (g.length : Int) ([(Op3.mk zerO.R (V3.mk 5 5 5))])).getD (z17).toNat zerO)).T).x = (((g.getD (z17).toNat zerO)).T).x)) && ((decide (((((lput (lput ((lrep (((g.length : Int) + 1)) (zerO))) 0 (lsub g 0 (zmin (g.length : Int) (g.length : Int)))) (g.length : Int) ([(Op3.mk zerO.R (V3.mk 5 5 5))])).getD (z17).toNat zerO)).T).y = (((g.getD (z17).toNat zerO)).T).y)) && ((decide (((((lput (lput ((lrep (((g.length : Int) + 1)) (zerO))) 0 (lsub g 0 (zmin (g.length : Int) (g.length : Int)))) (g.length : Int) ([(Op3.mk zerO.R (V3.mk 5 5 5))])).getD (z17).toNat zerO)).T).z = (((g.getD (z17).toNat zerO)).T).z)) && true))))))))))))) = false →
 (rgP (g.length : Int) ((w64 (z17 + 1))) ∧
 ((decide (0 ≤ rgMu (g.length : Int) ((w64 (z17 + 1))))) = true ∧
 (decide (rgMu (g.length : Int) ((w64 (z17 + 1))) < rgMu (g.length : Int) z17)) = true))))))) ∧
((decide (z17 < (g.length : Int))) = false →
(inR (g.length : Int) (((g.length : Int) + (([(Op3.mk zerO.R (V3.mk 5 5 5))]).length : Int))) ∧
(((!(decide (((((lput (lput ((lrep (((g.length : Int) + 1)) (zerO))) 0 (lsub g 0 (zmin (g.length : Int) (g.length : Int)))) (g.length : Int) ([(Op3.mk zerO.R (V3.mk 5 5 5))])).getD ((g.length : Int)).toNat zerO)).T).x = 5))) = true →
 (false, ()) = (true, ())) ∧
((!(decide (((((lput (lput ((lrep (((g.length : Int) + 1)) (zerO))) 0 (lsub g 0 (zmin (g.length : Int) (g.length : Int)))) (g.length : Int) ([(Op3.mk zerO.R (V3.mk 5 5 5))])).getD ((g.length : Int)).toNat zerO)).T).x = 5))) = false →
((leP 0 0 ∧
 (leP 0 (l.length : Int) ∧
 leP (l.length : Int) (((l.length : Int) + (([(V3.mk 6 6 6), (V3.mk 7 7 7)]).length : Int))))) ∧
(True ∧
∀ z23 : Bool,
(z23 = smV (lsub (lput (lput ((lrep (((l.length : Int) + 2)) (V3.mk 0 0 0))) 0 (lsub l 0 (zmin (l.length : Int) (l.length : Int)))) (l.length : Int) ([(V3.mk 6 6 6), (V3.mk 7 7 7)])) 0 (l.length : Int)) l →
(((!z23) = true →
 (false, ()) = (true, ())) ∧
((!z23) = false →
(inR (l.length : Int) (((l.length : Int) + (([(V3.mk 6 6 6), (V3.mk 7 7 7)]).length : Int))) ∧
(((!(decide ((((lput (lput ((lrep (((l.length : Int) + 2)) (V3.mk 0 0 0))) 0 (lsub l 0 (zmin (l.length : Int) (l.length : Int)))) (l.length : Int) ([(V3.mk 6 6 6), (V3.mk 7 7 7)])).getD ((l.length : Int)).toNat (V3.mk 0 0 0))).x = 6))) = true →
 (false, ()) = (true, ())) ∧
((!(decide ((((lput (lput ((lrep (((l.length : Int) + 2)) (V3.mk 0 0 0))) 0 (lsub l 0 (zmin (l.length : Int) (l.length : Int)))) (l.length : Int) ([(V3.mk 6 6 6), (V3.mk 7 7 7)])).getD ((l.length : Int)).toNat (V3.mk 0 0 0))).x = 6))) = false →
(inR (((l.length : Int) + 1)) (((l.length : Int) + (([(V3.mk 6 6 6), (V3.mk 7 7 7)]).length : Int))) ∧
(((!(decide ((((lput (lput ((lrep (((l.length : Int) + 2)) (V3.mk 0 0 0))) 0 (lsub l 0 (zmin (l.length : Int) (l.length : Int)))) (l.length : Int) ([(V3.mk 6 6 6), (V3.mk 7 7 7)])).getD (((l.length : Int) + 1)).toNat (V3.mk 0 0 0))).x = 7))) = true →
 (false, ()) = (true, ())) ∧
((!(decide ((((lput (lput ((lrep (((l.length : Int) + 2)) (V3.mk 0 0 0))) 0 (lsub l 0 (zmin (l.length : Int) (l.length : Int)))) (l.length : Int) ([(V3.mk 6 6 6), (V3.mk 7 7 7)])).getD (((l.length : Int) + 1)).toNat (V3.mk 0 0 0))).x = 7))) = false →
(nnP (lput (lput ((lrep (((l.length : Int) + 2)) (V3.mk 0 0 0))) 0 (lsub l 0 (zmin (l.length : Int) (l.length : Int)))) (l.length : Int) ([(V3.mk 6 6 6), (V3.mk 7 7 7)])) 0 ∧
∀ z28 : List V3,
∀ z29 : Int,
((decide ((-9223372036854775808) ≤ z29)) = true →
((decide (z29 ≤ 9223372036854775807)) = true →
(nnP z28 z29 →
(eqP (z28.length : Int) (((lput (lput ((lrep (((l.length : Int) + 2)) (V3.mk 0 0 0))) 0 (lsub l 0 (zmin (l.length : Int) (l.length : Int)))) (l.length : Int) ([(V3.mk 6 6 6), (V3.mk 7 7 7)])).length : Int)) →
(((decide (z29 < ((l.length : Int) + (([(V3.mk 6 6 6), (V3.mk 7 7 7)]).length : Int)))) = true →
 (inR z29 (((l.length : Int) + (([(V3.mk 6 6 6), (V3.mk 7 7 7)]).length : Int))) ∧
 (nnP (lset z28 z29 (V3.mk 9 9 9)) ((w64 (z29 + 1))) ∧
 ((decide (0 ≤ lnV (lset z28 z29 (V3.mk 9 9 9)) ((w64 (z29 + 1))))) = true ∧
 (decide (lnV (lset z28 z29 (V3.mk 9 9 9)) ((w64 (z29 + 1))) < lnV z28 z29)) = true)))) ∧
((decide (z29 < ((l.length : Int) + (([(V3.mk 6 6 6), (V3.mk 7 7 7)]).length : Int)))) = false →
(True ∧
∀ z35 : List V3,
(z35 = srP g l →
∀ z37 : List V3,
(z37 = srA g l →
∀ z39 : Int,
(z39 = abE g l →
(True ∧
∀ z41 : Bool,
(z41 = smV z5 z35 →
(((!z41) = true →
 (false, ()) = (true, ())) ∧
((!z41) = false →
(True ∧
∀ z44 : Bool,
(z44 = smV z7 z37 →
(((!z44) = true →
 (false, ()) = (true, ())) ∧
((!z44) = false →
(rgP (z5.length : Int) 0 ∧
∀ z47 : List V3,
∀ z48 : Int,
((decide ((-9223372036854775808) ≤ z48)) = true →
((decide (z48 ≤ 9223372036854775807)) = true →
(rgP (z47.length : Int) z48 →
(eqP (z47.length : Int) (z5.length : Int) →
(((decide (z48 < (z5.length : Int))) = true →
 (inB z47 z48 ∧
 (rgP (((lset z47 z48 ((V3.mk (-1) (-1) (-1)))).length : Int)) ((w64 (z48 + 1))) ∧
 ((decide (0 ≤ lnV (lset z47 z48 ((V3.mk (-1) (-1) (-1)))) ((w64 (z48 + 1))))) = true ∧
 (decide (lnV (lset z47 z48 ((V3.mk (-1) (-1) (-1)))) ((w64 (z48 + 1))) < lnV z47 z48)) = true)))) ∧
((decide (z48 < (z5.length : Int))) = false →
(lfit 24 (lapp z47 ([(V3.mk 0 0 0), (V3.mk 0 0 0)])) ∧
(((!(decide (((lapp z47 ([(V3.mk 0 0 0), (V3.mk 0 0 0)])).length : Int) = ((z47.length : Int) + 2)))) = true →
 (false, ()) = (true, ())) ∧
((!(decide (((lapp z47 ([(V3.mk 0 0 0), (V3.mk 0 0 0)])).length : Int) = ((z47.length : Int) + 2)))) = false →
(rgP (z7.length : Int) 0 ∧
∀ z55 : List V3,
∀ z56 : Int,
((decide ((-9223372036854775808) ≤ z56)) = true →
((decide (z56 ≤ 9223372036854775807)) = true →
(rgP (z55.length : Int) z56 →
(eqP (z55.length : Int) (z7.length : Int) →
(((decide (z56 < (z7.length : Int))) = true →
 (inB z55 z56 ∧
 (rgP (((lset z55 z56 ((V3.mk (-1) (-1) (-1)))).length : Int)) ((w64 (z56 + 1))) ∧
 ((decide (0 ≤ lnV (lset z55 z56 ((V3.mk (-1) (-1) (-1)))) ((w64 (z56 + 1))))) = true ∧
 (decide (lnV (lset z55 z56 ((V3.mk (-1) (-1) (-1)))) ((w64 (z56 + 1))) < lnV z55 z56)) = true)))) ∧
((decide (z56 < (z7.length : Int))) = false →
(lfit 24 (lapp z55 ([(V3.mk 0 0 0), (V3.mk 0 0 0)])) ∧
(((!(decide (((lapp z55 ([(V3.mk 0 0 0), (V3.mk 0 0 0)])).length : Int) = ((z55.length : Int) + 2)))) = true →
 (false, ()) = (true, ())) ∧
((!(decide (((lapp z55 ([(V3.mk 0 0 0), (V3.mk 0 0 0)])).length : Int) = ((z55.length : Int) + 2)))) = false →
(rgP (z28.length : Int) 0 ∧
∀ z63 : Int,
((decide ((-9223372036854775808) ≤ z63)) = true →
((decide (z63 ≤ 9223372036854775807)) = true →
(rgP (z28.length : Int) z63 →
(((decide (z63 < ((l.length : Int) + (([(V3.mk 6 6 6), (V3.mk 7 7 7)]).length : Int)))) = true →
 (inR z63 (((l.length : Int) + (([(V3.mk 6 6 6), (V3.mk 7 7 7)]).length : Int))) ∧
 (((!((decide (((z28.getD (z63).toNat (V3.mk 0 0 0))).x = 9)) && ((decide (((z28.getD (z63).toNat (V3.mk 0 0 0))).y = 9)) && ((decide (((z28.getD (z63).toNat (V3.mk 0 0 0))).z = 9)) && true)))) = true →
  (false, ()) = (true, ())) ∧
 ((!((decide (((z28.getD (z63).toNat (V3.mk 0 0 0))).x = 9)) && ((decide (((z28.getD (z63).toNat (V3.mk 0 0 0))).y = 9)) && ((decide (((z28.getD (z63).toNat (V3.mk 0 0 0))).z = 9)) && true)))) = false →
 (rgP (z28.length : Int) ((w64 (z63 + 1))) ∧
 ((decide (0 ≤ lnV z28 ((w64 (z63 + 1))))) = true ∧
 (decide (lnV z28 ((w64 (z63 + 1))) < lnV z28 z63)) = true)))))) ∧
((decide (z63 < ((l.length : Int) + (([(V3.mk 6 6 6), (V3.mk 7 7 7)]).length : Int)))) = false →
(True ∧
∀ z68 : Bool,
(z68 = smV z11 z35 →
((z68 = true →
 (True ∧
 ∀ z71 : Bool,
 (z71 = smV z13 z37 →
 (z71, ()) = (true, ())))) ∧
(z68 = false →
(false, ()) = (true, ()))))))))))))))))))))))))))))))))))))))))))))))))))))))))))))))))))))))))))))))))))))))))
theorem r_AbsentMemory (x : HL C_AbsentMemory.args) : runs (env0 [(10, C_awake14.hid), (17, C_aSort.hid), (18, C_r14DocSort.hid), (19, C_r14Same.hid)] [(5, 12, { fix := [(.tmp 69, .list .op)], vars := [(.tmp 71, .int .i64)], inv := fun y v => rgP (lenI y.1) v.1, mu := fun y v => rgMu (lenI y.1) v.1 }), (5, 20, { fix := [], vars := [(.wtmp 8, .list .vec), (.tmp 122, .int .i64)], inv := fun y v => nnP v.1 v.2.1, mu := fun y v => lnV v.1 v.2.1 }), (5, 31, { fix := [], vars := [(.itmp 21, .list .vec), (.tmp 157, .int .i64)], inv := fun y v => rgP (lenI v.1) v.2.1, mu := fun y v => lnV v.1 v.2.1 }), (5, 40, { fix := [(.wtmp 8, .list .vec)], vars := [(.tmp 179, .int .i64)], inv := fun y v => rgP (lenI y.1) v.1, mu := fun y v => lnV y.1 v.1 })] []) 400 5 C_AbsentMemory x = T_AbsentMemory x.1 x.2.1 := by kernel_rfl
theorem p_AbsentMemory (g : List Op3) (l : List V3) (h0 : (Sh.list .op).okA g) (h1 : (Sh.list .vec).okA l) (hp : rchO g ∧ rchV l) : T_AbsentMemory g l := by
  unfold T_AbsentMemory
  have hg : g.length * 96 ≤ 140737488351232 := hp.1
  have hl : l.length * 24 ≤ 140737488351232 := hp.2
  have n1 := spareL0 g zerO 1 (by decide)
  have n2 := spareL0 l (V3.mk 0 0 0) 2 (by decide)
  have g1 : ([Op3.mk zerO.R (V3.mk 5 5 5)].length : Int) = 1 := rfl
  have g2 : ([V3.mk 6 6 6, V3.mk 7 7 7].length : Int) = 2 := rfl
  rw [spareL g [Op3.mk zerO.R (V3.mk 5 5 5)] zerO 1 rfl, spareL l [V3.mk 6 6 6, V3.mk 7 7 7] (V3.mk 0 0 0) 2 rfl, spare_sub, spare_sub, n1, n2, spare_0, spare_0, spare_end _ _ _ (i := 1) (by decide), g1, g2]
  refine ⟨trivial, fun z hz => ⟨fun h => absurd (hz ▸ h) (by decide), fun _ => ⟨⟨by show (0 : Int) ≤ _; omega, by show (_ : Int) ≤ _; omega, ?_⟩, trivial, by show (_ : Int) ≤ _; omega, ⟨by show (0 : Int) ≤ _; omega, by show (_ : Int) ≤ _; omega, ?_⟩, trivial, by show (_ : Int) ≤ _; omega, trivial, fun p hp a ha e he => ⟨trivial, fun p' hp' a' ha' e' he' => ⟨rg_init g, fun i _ _ hI => ⟨fun hi => ?_, fun _ => ⟨⟨by omega, by omega⟩, fun h => absurd h (by decide), fun _ => ⟨⟨Int.le_refl _, by show (0 : Int) ≤ _; omega, by show (_ : Int) ≤ _; omega⟩, trivial, fun b hb => ⟨fun h => absurd h (by rw [hb]; simp [smV]), fun _ => ⟨⟨by omega, by omega⟩, fun h => absurd h (by decide), fun _ => ⟨⟨by omega, by omega⟩, fun h => absurd h (by decide), fun _ => ⟨nn_init _ _, fun y i _ _ hN hlen => ⟨fun hi => ?_, fun hi => ⟨trivial, fun x hx u hu v hv => ⟨trivial, fun b1 hb1 => ⟨fun h => absurd h (by rw [hb1, hp, hx]; simp [smV]), fun _ => ⟨trivial, fun b2 hb2 => ⟨fun h => absurd h (by rw [hb2, ha, hu]; simp [smV]), fun _ => ?_⟩⟩⟩⟩⟩⟩⟩⟩⟩⟩⟩⟩⟩⟩⟩⟩⟩⟩
  · show (lrep ((g.length : Int) + 1) zerO).length * 96 ≤ 140737488355328
    unfold lrep; rw [List.length_replicate]; omega
  · show (lrep ((l.length : Int) + 2) (V3.mk 0 0 0)).length * 24 ≤ 140737488355328
    unfold lrep; rw [List.length_replicate]; omega
  · have hi := of_decide_eq_true hi
    rw [spare_at _ _ _ hI.1 hi, eqOc']
    exact ⟨⟨hI.1, by omega⟩, ⟨hI.1, hi⟩, fun h => absurd h (by simp), fun _ => rg_next (by omega) hI hi⟩
  · have hi := of_decide_eq_true hi
    have hlen : (y.length : Int) = ((l ++ [V3.mk 6 6 6, V3.mk 7 7 7]).length : Int) := hlen
    rw [List.length_append] at hlen
    simp only [List.length_cons, List.length_nil] at hlen
    have i0 := hN.1
    have e1 : w64 (i + 1) = i + 1 := w64_id (by omega) (by omega)
    rw [e1]
    exact ⟨⟨i0, by omega⟩, nn_next hN (by omega), decide_eq_true (by unfold lnV; rw [lset_len]; omega), decide_eq_true (by unfold lnV; rw [lset_len]; omega)⟩
  · have hi := of_decide_eq_false hi
    have hlen : (y.length : Int) = ((l ++ [V3.mk 6 6 6, V3.mk 7 7 7]).length : Int) := hlen
    rw [List.length_append] at hlen
    simp only [List.length_cons, List.length_nil] at hlen
    have hpl : p.length ≤ l.length := by
      rw [hp]; unfold srP; split
      · exact List.length_filter_le _ _
      · exact Nat.zero_le _
    have hal : a.length ≤ l.length := by
      rw [ha]; unfold srA; split
      · exact List.length_filter_le _ _
      · exact Nat.zero_le _
    have step : ∀ (q t : List V3) (k : Int), q.length ≤ l.length → rgP (t.length : Int) k → eqP (t.length : Int) (q.length : Int) → (decide (k < (q.length : Int)) = true →
        (inB t k ∧ (rgP (((lset t k (V3.mk (-1) (-1) (-1))).length : Int)) (w64 (k + 1)) ∧ (decide (0 ≤ lnV (lset t k (V3.mk (-1) (-1) (-1))) (w64 (k + 1))) = true ∧ decide (lnV (lset t k (V3.mk (-1) (-1) (-1))) (w64 (k + 1)) < lnV t k) = true)))) ∧
        lfit 24 (lapp t [V3.mk 0 0 0, V3.mk 0 0 0]) ∧ ¬ (!decide (((lapp t [V3.mk 0 0 0, V3.mk 0 0 0]).length : Int) = (t.length : Int) + 2)) = true := fun q t k hq hK hlk => by
      have hlk : (t.length : Int) = (q.length : Int) := hlk
      refine ⟨fun hk => ?_, ?_, ?_⟩
      · have hk := of_decide_eq_true hk
        have k0 := hK.1
        have e1 : w64 (k + 1) = k + 1 := w64_id (by omega) (by omega)
        rw [e1]
        exact ⟨⟨k0, by omega⟩, ⟨by omega, by rw [lset_len]; omega⟩, decide_eq_true (by unfold lnV; rw [lset_len]; omega), decide_eq_true (by unfold lnV; rw [lset_len]; omega)⟩
      · show (t ++ [_, _]).length * 24 ≤ 140737488355328
        rw [List.length_append]; simp only [List.length_cons, List.length_nil]; omega
      · unfold lapp
        rw [List.length_append]; simp
    refine ⟨rg_init p, fun t k _ _ hK hlk => ⟨(step p t k hpl hK hlk).1, fun _ => ⟨(step p t k hpl hK hlk).2.1, fun h => absurd h (step p t k hpl hK hlk).2.2, fun _ => ⟨rg_init a, fun t2 k2 _ _ hK2 hlk2 => ⟨(step a t2 k2 hal hK2 hlk2).1, fun _ => ⟨(step a t2 k2 hal hK2 hlk2).2.1, fun h => absurd h (step a t2 k2 hal hK2 hlk2).2.2, fun _ => ⟨rg_init y, fun k3 _ _ hK3 => ⟨fun hk3 => ?_, fun _ => ⟨trivial, fun b3 hb3 => ⟨fun _ => ⟨trivial, fun b4 hb4 => by rw [hb4, ha', hu]; simp [smV]⟩, fun h => absurd h (by rw [hb3, hp', hx]; simp [smV])⟩⟩⟩⟩⟩⟩⟩⟩⟩⟩
    have hk3 := of_decide_eq_true hk3
    have k0 := hK3.1
    have e1 : w64 (k3 + 1) = k3 + 1 := w64_id (by omega) (by omega)
    rw [nn_end hN (by omega) k0 (by omega) (V3.mk 0 0 0), e1]
    exact ⟨⟨k0, by omega⟩, fun h => absurd h (by decide), fun _ => ⟨⟨by omega, by omega⟩, decide_eq_true (by unfold lnV; omega), decide_eq_true (by unfold lnV; omega)⟩⟩
theorem s_AbsentMemory : Sound Try.prog 5 C_AbsentMemory :=
  sound_of_eq (env0_ok (.cons s_awake14.hid (.cons s_aSort.hid (.cons s_r14DocSort.hid (.cons s_r14Same.hid (.nil)))))) (fun x => T_AbsentMemory x.1 x.2.1) r_AbsentMemory fun x ok hp => p_AbsentMemory x.1 x.2.1 ok.1 ok.2.1 hp
end Go.Fx
