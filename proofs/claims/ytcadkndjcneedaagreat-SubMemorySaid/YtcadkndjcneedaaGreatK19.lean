/-
  Contracts: SubMemory.
-/
import Derived.Test.YtcadkndjcneedaaGreatK17
import Derived.Test.YtcadkndjcneedaaGreatHm
import Derived.Test.YtcadkndjcneedaaGreatK18
namespace Go.Fx
open Go Go.Proofs
set_option maxRecDepth 100000
set_option linter.unusedVariables false
set_option linter.unusedSimpArgs false
set_option linter.unusedSectionVars false
noncomputable def C_SubMemory : Contract := { args := [.list .op, .list .op], res := [.bool], pre := fun x => rchO x.1 ∧ rchO x.2.1, F := fun x => ((true : Bool), ()) }
def T_SubMemory (g : List Op3) (h : List Op3) : Prop :=
  (True ∧
∀ z2 : Bool,
(z2 = true →
(((!z2) = true →
 (false, ()) = (true, ())) ∧
((!z2) = false →
((leP 0 (g.length : Int) ∧
 (leP (g.length : Int) (((g.length : Int) + 3)) ∧
 lfit 96 ((lrep (((g.length : Int) + 3)) (zerO))))) ∧
(True ∧
(leP (((g.length : Int) + (([(Op3.mk zerO.R (V3.mk 7 8 0))]).length : Int))) (((lput ((lrep (((g.length : Int) + 3)) (zerO))) 0 (lsub g 0 (zmin (g.length : Int) (g.length : Int)))).length : Int)) ∧
(leP ((((g.length : Int) + (([(Op3.mk zerO.R (V3.mk 7 8 0))]).length : Int)) + (([(Op3.mk zerO.R (V3.mk 7 8 1))]).length : Int))) (((lput (lput ((lrep (((g.length : Int) + 3)) (zerO))) 0 (lsub g 0 (zmin (g.length : Int) (g.length : Int)))) (g.length : Int) ([(Op3.mk zerO.R (V3.mk 7 8 0))])).length : Int)) ∧
(leP (((((g.length : Int) + (([(Op3.mk zerO.R (V3.mk 7 8 0))]).length : Int)) + (([(Op3.mk zerO.R (V3.mk 7 8 1))]).length : Int)) + (([(Op3.mk zerO.R (V3.mk 7 8 2))]).length : Int))) (((lput (lput (lput ((lrep (((g.length : Int) + 3)) (zerO))) 0 (lsub g 0 (zmin (g.length : Int) (g.length : Int)))) (g.length : Int) ([(Op3.mk zerO.R (V3.mk 7 8 0))])) (((g.length : Int) + (([(Op3.mk zerO.R (V3.mk 7 8 0))]).length : Int))) ([(Op3.mk zerO.R (V3.mk 7 8 1))])).length : Int)) ∧
((leP 0 0 ∧
 (leP 0 (g.length : Int) ∧
 leP (g.length : Int) (((((g.length : Int) + (([(Op3.mk zerO.R (V3.mk 7 8 0))]).length : Int)) + (([(Op3.mk zerO.R (V3.mk 7 8 1))]).length : Int)) + (([(Op3.mk zerO.R (V3.mk 7 8 2))]).length : Int))))) ∧
((leP 0 (h.length : Int) ∧
 (leP (h.length : Int) (((h.length : Int) + 3)) ∧
 lfit 96 ((lrep (((h.length : Int) + 3)) (zerO))))) ∧
(True ∧
(leP (((h.length : Int) + (([(Op3.mk zerO.R (V3.mk 7 8 0))]).length : Int))) (((lput ((lrep (((h.length : Int) + 3)) (zerO))) 0 (lsub h 0 (zmin (h.length : Int) (h.length : Int)))).length : Int)) ∧
(leP ((((h.length : Int) + (([(Op3.mk zerO.R (V3.mk 7 8 0))]).length : Int)) + (([(Op3.mk zerO.R (V3.mk 7 8 1))]).length : Int))) (((lput (lput ((lrep (((h.length : Int) + 3)) (zerO))) 0 (lsub h 0 (zmin (h.length : Int) (h.length : Int)))) (h.length : Int) ([(Op3.mk zerO.R (V3.mk 7 8 0))])).length : Int)) ∧
(leP (((((h.length : Int) + (([(Op3.mk zerO.R (V3.mk 7 8 0))]).length : Int)) + (([(Op3.mk zerO.R (V3.mk 7 8 1))]).length : Int)) + (([(Op3.mk zerO.R (V3.mk 7 8 2))]).length : Int))) (((lput (lput (lput ((lrep (((h.length : Int) + 3)) (zerO))) 0 (lsub h 0 (zmin (h.length : Int) (h.length : Int)))) (h.length : Int) ([(Op3.mk zerO.R (V3.mk 7 8 0))])) (((h.length : Int) + (([(Op3.mk zerO.R (V3.mk 7 8 0))]).length : Int))) ([(Op3.mk zerO.R (V3.mk 7 8 1))])).length : Int)) ∧
((leP 0 0 ∧
 (leP 0 (h.length : Int) ∧
 leP (h.length : Int) (((((h.length : Int) + (([(Op3.mk zerO.R (V3.mk 7 8 0))]).length : Int)) + (([(Op3.mk zerO.R (V3.mk 7 8 1))]).length : Int)) + (([(Op3.mk zerO.R (V3.mk 7 8 2))]).length : Int))))) ∧
(True ∧
∀ z5 : List Op3,
(z5 = meL (lsub (lput (lput (lput (lput ((lrep (((g.length : Int) + 3)) (zerO))) 0 (lsub g 0 (zmin (g.length : Int) (g.length : Int)))) (g.length : Int) ([(Op3.mk zerO.R (V3.mk 7 8 0))])) (((g.length : Int) + (([(Op3.mk zerO.R (V3.mk 7 8 0))]).length : Int))) ([(Op3.mk zerO.R (V3.mk 7 8 1))])) ((((g.length : Int) + (([(Op3.mk zerO.R (V3.mk 7 8 0))]).length : Int)) + (([(Op3.mk zerO.R (V3.mk 7 8 1))]).length : Int))) ([(Op3.mk zerO.R (V3.mk 7 8 2))])) 0 (g.length : Int)) (lsub (lput (lput (lput (lput ((lrep (((h.length : Int) + 3)) (zerO))) 0 (lsub h 0 (zmin (h.length : Int) (h.length : Int)))) (h.length : Int) ([(Op3.mk zerO.R (V3.mk 7 8 0))])) (((h.length : Int) + (([(Op3.mk zerO.R (V3.mk 7 8 0))]).length : Int))) ([(Op3.mk zerO.R (V3.mk 7 8 1))])) ((((h.length : Int) + (([(Op3.mk zerO.R (V3.mk 7 8 0))]).length : Int)) + (([(Op3.mk zerO.R (V3.mk 7 8 1))]).length : Int))) ([(Op3.mk zerO.R (V3.mk 7 8 2))])) 0 (h.length : Int)) →
∀ z7 : Int,
(z7 = two (lsub (lput (lput (lput (lput ((lrep (((g.length : Int) + 3)) (zerO))) 0 (lsub g 0 (zmin (g.length : Int) (g.length : Int)))) (g.length : Int) ([(Op3.mk zerO.R (V3.mk 7 8 0))])) (((g.length : Int) + (([(Op3.mk zerO.R (V3.mk 7 8 0))]).length : Int))) ([(Op3.mk zerO.R (V3.mk 7 8 1))])) ((((g.length : Int) + (([(Op3.mk zerO.R (V3.mk 7 8 0))]).length : Int)) + (([(Op3.mk zerO.R (V3.mk 7 8 1))]).length : Int))) ([(Op3.mk zerO.R (V3.mk 7 8 2))])) 0 (g.length : Int)) (lsub (lput (lput (lput (lput ((lrep (((h.length : Int) + 3)) (zerO))) 0 (lsub h 0 (zmin (h.length : Int) (h.length : Int)))) (h.length : Int) ([(Op3.mk zerO.R (V3.mk 7 8 0))])) (((h.length : Int) + (([(Op3.mk zerO.R (V3.mk 7 8 0))]).length : Int))) ([(Op3.mk zerO.R (V3.mk 7 8 1))])) ((((h.length : Int) + (([(Op3.mk zerO.R (V3.mk 7 8 0))]).length : Int)) + (([(Op3.mk zerO.R (V3.mk 7 8 1))]).length : Int))) ([(Op3.mk zerO.R (V3.mk 7 8 2))])) 0 (h.length : Int)) →
(True ∧
∀ z9 : List Op3,
(z9 = joL (lsub (lput (lput (lput (lput ((lrep (((g.length : Int) + 3)) (zerO))) 0 (lsub g 0 (zmin (g.length : Int) (g.length : Int)))) (g.length : Int) ([(Op3.mk zerO.R (V3.mk 7 8 0))])) (((g.length : Int) + (([(Op3.mk zerO.R (V3.mk 7 8 0))]).length : Int))) ([(Op3.mk zerO.R (V3.mk 7 8 1))])) ((((g.length : Int) + (([(Op3.mk zerO.R (V3.mk 7 8 0))]).length : Int)) + (([(Op3.mk zerO.R (V3.mk 7 8 1))]).length : Int))) ([(Op3.mk zerO.R (V3.mk 7 8 2))])) 0 (g.length : Int)) (lsub (lput (lput (lput (lput ((lrep (((h.length : Int) + 3)) (zerO))) 0 (lsub h 0 (zmin (h.length : Int) (h.length : Int)))) (h.length : Int) ([(Op3.mk zerO.R (V3.mk 7 8 0))])) (((h.length : Int) + (([(Op3.mk zerO.R (V3.mk 7 8 0))]).length : Int))) ([(Op3.mk zerO.R (V3.mk 7 8 1))])) ((((h.length : Int) + (([(Op3.mk zerO.R (V3.mk 7 8 0))]).length : Int)) + (([(Op3.mk zerO.R (V3.mk 7 8 1))]).length : Int))) ([(Op3.mk zerO.R (V3.mk 7 8 2))])) 0 (h.length : Int)) →
∀ z11 : Int,
(z11 = joE (lsub (lput (lput (lput (lput ((lrep (((g.length : Int) + 3)) (zerO))) 0 (lsub g 0 (zmin (g.length : Int) (g.length : Int)))) (g.length : Int) ([(Op3.mk zerO.R (V3.mk 7 8 0))])) (((g.length : Int) + (([(Op3.mk zerO.R (V3.mk 7 8 0))]).length : Int))) ([(Op3.mk zerO.R (V3.mk 7 8 1))])) ((((g.length : Int) + (([(Op3.mk zerO.R (V3.mk 7 8 0))]).length : Int)) + (([(Op3.mk zerO.R (V3.mk 7 8 1))]).length : Int))) ([(Op3.mk zerO.R (V3.mk 7 8 2))])) 0 (g.length : Int)) (lsub (lput (lput (lput (lput ((lrep (((h.length : Int) + 3)) (zerO))) 0 (lsub h 0 (zmin (h.length : Int) (h.length : Int)))) (h.length : Int) ([(Op3.mk zerO.R (V3.mk 7 8 0))])) (((h.length : Int) + (([(Op3.mk zerO.R (V3.mk 7 8 0))]).length : Int))) ([(Op3.mk zerO.R (V3.mk 7 8 1))])) ((((h.length : Int) + (([(Op3.mk zerO.R (V3.mk 7 8 0))]).length : Int)) + (([(Op3.mk zerO.R (V3.mk 7 8 1))]).length : Int))) ([(Op3.mk zerO.R (V3.mk 7 8 2))])) 0 (h.length : Int)) →
(True ∧
∀ z13 : List Op3,
(z13 = heL (lsub (lput (lput (lput (lput ((lrep (((g.length : Int) + 3)) (zerO))) 0 (lsub g 0 (zmin (g.length : Int) (g.length : Int)))) (g.length : Int) ([(Op3.mk zerO.R (V3.mk 7 8 0))])) (((g.length : Int) + (([(Op3.mk zerO.R (V3.mk 7 8 0))]).length : Int))) ([(Op3.mk zerO.R (V3.mk 7 8 1))])) ((((g.length : Int) + (([(Op3.mk zerO.R (V3.mk 7 8 0))]).length : Int)) + (([(Op3.mk zerO.R (V3.mk 7 8 1))]).length : Int))) ([(Op3.mk zerO.R (V3.mk 7 8 2))])) 0 (g.length : Int)) →
∀ z15 : Int,
(z15 = chkE (lsub (lput (lput (lput (lput ((lrep (((g.length : Int) + 3)) (zerO))) 0 (lsub g 0 (zmin (g.length : Int) (g.length : Int)))) (g.length : Int) ([(Op3.mk zerO.R (V3.mk 7 8 0))])) (((g.length : Int) + (([(Op3.mk zerO.R (V3.mk 7 8 0))]).length : Int))) ([(Op3.mk zerO.R (V3.mk 7 8 1))])) ((((g.length : Int) + (([(Op3.mk zerO.R (V3.mk 7 8 0))]).length : Int)) + (([(Op3.mk zerO.R (V3.mk 7 8 1))]).length : Int))) ([(Op3.mk zerO.R (V3.mk 7 8 2))])) 0 (g.length : Int)) →
(True ∧
(True ∧
∀ z17 : List (List Int),
(z17 = csC (lsub (lput (lput (lput (lput ((lrep (((g.length : Int) + 3)) (zerO))) 0 (lsub g 0 (zmin (g.length : Int) (g.length : Int)))) (g.length : Int) ([(Op3.mk zerO.R (V3.mk 7 8 0))])) (((g.length : Int) + (([(Op3.mk zerO.R (V3.mk 7 8 0))]).length : Int))) ([(Op3.mk zerO.R (V3.mk 7 8 1))])) ((((g.length : Int) + (([(Op3.mk zerO.R (V3.mk 7 8 0))]).length : Int)) + (([(Op3.mk zerO.R (V3.mk 7 8 1))]).length : Int))) ([(Op3.mk zerO.R (V3.mk 7 8 2))])) 0 (g.length : Int)) (lsub (lput (lput (lput (lput ((lrep (((h.length : Int) + 3)) (zerO))) 0 (lsub h 0 (zmin (h.length : Int) (h.length : Int)))) (h.length : Int) ([(Op3.mk zerO.R (V3.mk 7 8 0))])) (((h.length : Int) + (([(Op3.mk zerO.R (V3.mk 7 8 0))]).length : Int))) ([(Op3.mk zerO.R (V3.mk 7 8 1))])) ((((h.length : Int) + (([(Op3.mk zerO.R (V3.mk 7 8 0))]).length : Int)) + (([(Op3.mk zerO.R (V3.mk 7 8 1))]).length : Int))) ([(Op3.mk zerO.R (V3.mk 7 8 2))])) 0 (h.length : Int)) →
∀ z19 : Int,
(z19 = boE (lsub (lput (lput (lput (lput ((lrep (((g.length : Int) + 3)) (zerO))) 0 (lsub g 0 (zmin (g.length : Int) (g.length : Int)))) (g.length : Int) ([(Op3.mk zerO.R (V3.mk 7 8 0))])) (((g.length : Int) + (([(Op3.mk zerO.R (V3.mk 7 8 0))]).length : Int))) ([(Op3.mk zerO.R (V3.mk 7 8 1))])) ((((g.length : Int) + (([(Op3.mk zerO.R (V3.mk 7 8 0))]).length : Int)) + (([(Op3.mk zerO.R (V3.mk 7 8 1))]).length : Int))) ([(Op3.mk zerO.R (V3.mk 7 8 2))])) 0 (g.length : Int)) (lsub (lput (lput (lput (lput ((lrep (((h.length : Int) + 3)) (zerO))) 0 (lsub h 0 (zmin (h.length : Int) (h.length : Int)))) (h.length : Int) ([(Op3.mk zerO.R (V3.mk 7 8 0))])) (((h.length : Int) + (([(Op3.mk zerO.R (V3.mk 7 8 0))]).length : Int))) ([(Op3.mk zerO.R (V3.mk 7 8 1))])) ((((h.length : Int) + (([(Op3.mk zerO.R (V3.mk 7 8 0))]).length : Int)) + (([(Op3.mk zerO.R (V3.mk 7 8 1))]).length : Int))) ([(Op3.mk zerO.R (V3.mk 7 8 2))])) 0 (h.length : Int)) →
(True ∧
∀ z21 : List (List Int),
(z21 = clC (lsub (lput (lput (lput (lput ((lrep (((g.length : Int) + 3)) (zerO))) 0 (lsub g 0 (zmin (g.length : Int) (g.length : Int)))) (g.length : Int) ([(Op3.mk zerO.R (V3.mk 7 8 0))])) (((g.length : Int) + (([(Op3.mk zerO.R (V3.mk 7 8 0))]).length : Int))) ([(Op3.mk zerO.R (V3.mk 7 8 1))])) ((((g.length : Int) + (([(Op3.mk zerO.R (V3.mk 7 8 0))]).length : Int)) + (([(Op3.mk zerO.R (V3.mk 7 8 1))]).length : Int))) ([(Op3.mk zerO.R (V3.mk 7 8 2))])) 0 (g.length : Int)) →
∀ z23 : Int,
(z23 = chkE (lsub (lput (lput (lput (lput ((lrep (((g.length : Int) + 3)) (zerO))) 0 (lsub g 0 (zmin (g.length : Int) (g.length : Int)))) (g.length : Int) ([(Op3.mk zerO.R (V3.mk 7 8 0))])) (((g.length : Int) + (([(Op3.mk zerO.R (V3.mk 7 8 0))]).length : Int))) ([(Op3.mk zerO.R (V3.mk 7 8 1))])) ((((g.length : Int) + (([(Op3.mk zerO.R (V3.mk 7 8 0))]).length : Int)) + (([(Op3.mk zerO.R (V3.mk 7 8 1))]).length : Int))) ([(Op3.mk zerO.R (V3.mk 7 8 2))])) 0 (g.length : Int)) →
(True ∧
(True ∧
∀ z25 : Bool,
(z25 = siB (lsub (lput (lput (lput (lput ((lrep (((g.length : Int) + 3)) (zerO))) 0 (lsub g 0 (zmin (g.length : Int) (g.length : Int)))) (g.length : Int) ([(Op3.mk zerO.R (V3.mk 7 8 0))])) (((g.length : Int) + (([(Op3.mk zerO.R (V3.mk 7 8 0))]).length : Int))) ([(Op3.mk zerO.R (V3.mk 7 8 1))])) ((((g.length : Int) + (([(Op3.mk zerO.R (V3.mk 7 8 0))]).length : Int)) + (([(Op3.mk zerO.R (V3.mk 7 8 1))]).length : Int))) ([(Op3.mk zerO.R (V3.mk 7 8 2))])) 0 (g.length : Int)) (lsub (lput (lput (lput (lput ((lrep (((h.length : Int) + 3)) (zerO))) 0 (lsub h 0 (zmin (h.length : Int) (h.length : Int)))) (h.length : Int) ([(Op3.mk zerO.R (V3.mk 7 8 0))])) (((h.length : Int) + (([(Op3.mk zerO.R (V3.mk 7 8 0))]).length : Int))) ([(Op3.mk zerO.R (V3.mk 7 8 1))])) ((((h.length : Int) + (([(Op3.mk zerO.R (V3.mk 7 8 0))]).length : Int)) + (([(Op3.mk zerO.R (V3.mk 7 8 1))]).length : Int))) ([(Op3.mk zerO.R (V3.mk 7 8 2))])) 0 (h.length : Int)) →
∀ z27 : Int,
(z27 = two (lsub (lput (lput (lput (lput ((lrep (((g.length : Int) + 3)) (zerO))) 0 (lsub g 0 (zmin (g.length : Int) (g.length : Int)))) (g.length : Int) ([(Op3.mk zerO.R (V3.mk 7 8 0))])) (((g.length : Int) + (([(Op3.mk zerO.R (V3.mk 7 8 0))]).length : Int))) ([(Op3.mk zerO.R (V3.mk 7 8 1))])) ((((g.length : Int) + (([(Op3.mk zerO.R (V3.mk 7 8 0))]).length : Int)) + (([(Op3.mk zerO.R (V3.mk 7 8 1))]).length : Int))) ([(Op3.mk zerO.R (V3.mk 7 8 2))])) 0 (g.length : Int)) (lsub (lput (lput (lput (lput ((lrep (((h.length : Int) + 3)) (zerO))) 0 (lsub h 0 (zmin (h.length : Int) (h.length : Int)))) (h.length : Int) ([(Op3.mk zerO.R (V3.mk 7 8 0))])) (((h.length : Int) + (([(Op3.mk zerO.R (V3.mk 7 8 0))]).length : Int))) ([(Op3.mk zerO.R (V3.mk 7 8 1))])) ((((h.length : Int) + (([(Op3.mk zerO.R (V3.mk 7 8 0))]).length : Int)) + (([(Op3.mk zerO.R (V3.mk 7 8 1))]).length : Int))) ([(Op3.mk zerO.R (V3.mk 7 8 2))])) 0 (h.length : Int)) →
(True ∧
∀ z29 : Bool,
(z29 = noB (lsub (lput (lput (lput (lput ((lrep (((g.length : Int) + 3)) (zerO))) 0 (lsub g 0 (zmin (g.length : Int) (g.length : Int)))) (g.length : Int) ([(Op3.mk zerO.R (V3.mk 7 8 0))])) (((g.length : Int) + (([(Op3.mk zerO.R (V3.mk 7 8 0))]).length : Int))) ([(Op3.mk zerO.R (V3.mk 7 8 1))])) ((((g.length : Int) + (([(Op3.mk zerO.R (V3.mk 7 8 0))]).length : Int)) + (([(Op3.mk zerO.R (V3.mk 7 8 1))]).length : Int))) ([(Op3.mk zerO.R (V3.mk 7 8 2))])) 0 (g.length : Int)) (lsub (lput (lput (lput (lput ((lrep (((h.length : Int) + 3)) (zerO))) 0 (lsub h 0 (zmin (h.length : Int) (h.length : Int)))) (h.length : Int) ([(Op3.mk zerO.R (V3.mk 7 8 0))])) (((h.length : Int) + (([(Op3.mk zerO.R (V3.mk 7 8 0))]).length : Int))) ([(Op3.mk zerO.R (V3.mk 7 8 1))])) ((((h.length : Int) + (([(Op3.mk zerO.R (V3.mk 7 8 0))]).length : Int)) + (([(Op3.mk zerO.R (V3.mk 7 8 1))]).length : Int))) ([(Op3.mk zerO.R (V3.mk 7 8 2))])) 0 (h.length : Int)) →
∀ z31 : Int,
(z31 = boE (lsub (lput (lput (lput (lput ((lrep (((g.length : Int) + 3)) (zerO))) 0 (lsub g 0 (zmin (g.length : Int) (g.length : Int)))) (g.length : Int) ([(Op3.mk zerO.R (V3.mk 7 8 0))])) (((g.length : Int) + (([(Op3.mk zerO.R (V3.mk 7 8 0))]).length : Int))) ([(Op3.mk zerO.R (V3.mk 7 8 1))])) ((((g.length : Int) + (([(Op3.mk zerO.R (V3.mk 7 8 0))]).length : Int)) + (([(Op3.mk zerO.R (V3.mk 7 8 1))]).length : Int))) ([(Op3.mk zerO.R (V3.mk 7 8 2))])) 0 (g.length : Int)) (lsub (lput (lput (lput (lput ((lrep (((h.length : Int) + 3)) (zerO))) 0 (lsub h 0 (zmin (h.length : Int) (h.length : Int)))) (h.length : Int) ([(Op3.mk zerO.R (V3.mk 7 8 0))])) (((h.length : Int) + (([(Op3.mk zerO.R (V3.mk 7 8 0))]).length : Int))) ([(Op3.mk zerO.R (V3.mk 7 8 1))])) ((((h.length : Int) + (([(Op3.mk zerO.R (V3.mk 7 8 0))]).length : Int)) + (([(Op3.mk zerO.R (V3.mk 7 8 1))]).length : Int))) ([(Op3.mk zerO.R (V3.mk 7 8 2))])) 0 (h.length : Int)) →
(True ∧
∀ z33 : List Op3,
(z33 = meL (lsub (lput (lput (lput (lput ((lrep (((g.length : Int) + 3)) (zerO))) 0 (lsub g 0 (zmin (g.length : Int) (g.length : Int)))) (g.length : Int) ([(Op3.mk zerO.R (V3.mk 7 8 0))])) (((g.length : Int) + (([(Op3.mk zerO.R (V3.mk 7 8 0))]).length : Int))) ([(Op3.mk zerO.R (V3.mk 7 8 1))])) ((((g.length : Int) + (([(Op3.mk zerO.R (V3.mk 7 8 0))]).length : Int)) + (([(Op3.mk zerO.R (V3.mk 7 8 1))]).length : Int))) ([(Op3.mk zerO.R (V3.mk 7 8 2))])) 0 (g.length : Int)) (lsub (lput (lput (lput (lput ((lrep (((h.length : Int) + 3)) (zerO))) 0 (lsub h 0 (zmin (h.length : Int) (h.length : Int)))) (h.length : Int) ([(Op3.mk zerO.R (V3.mk 7 8 0))])) (((h.length : Int) + (([(Op3.mk zerO.R (V3.mk 7 8 0))]).length : Int))) ([(Op3.mk zerO.R (V3.mk 7 8 1))])) ((((h.length : Int) + (([(Op3.mk zerO.R (V3.mk 7 8 0))]).length : Int)) + (([(Op3.mk zerO.R (V3.mk 7 8 1))]).length : Int))) ([(Op3.mk zerO.R (V3.mk 7 8 2))])) 0 (h.length : Int)) →
∀ z35 : Int,
(z35 = two (lsub (lput (lput (lput (lput ((lrep (((g.length : Int) + 3)) (zerO))) 0 (lsub g 0 (zmin (g.length : Int) (g.length : Int)))) (g.length : Int) ([(Op3.mk zerO.R (V3.mk 7 8 0))])) (((g.length : Int) + (([(Op3.mk zerO.R (V3.mk 7 8 0))]).length : Int))) ([(Op3.mk zerO.R (V3.mk 7 8 1))])) ((((g.length : Int) + (([(Op3.mk zerO.R (V3.mk 7 8 0))]).length : Int)) + (([(Op3.mk zerO.R (V3.mk 7 8 1))]).length : Int))) ([(Op3.mk zerO.R (V3.mk 7 8 2))])) 0 (g.length : Int)) (lsub (lput (lput (lput (lput ((lrep (((h.length : Int) + 3)) (zerO))) 0 (lsub h 0 (zmin (h.length : Int) (h.length : Int)))) (h.length : Int) ([(Op3.mk zerO.R (V3.mk 7 8 0))])) (((h.length : Int) + (([(Op3.mk zerO.R (V3.mk 7 8 0))]).length : Int))) ([(Op3.mk zerO.R (V3.mk 7 8 1))])) ((((h.length : Int) + (([(Op3.mk zerO.R (V3.mk 7 8 0))]).length : Int)) + (([(Op3.mk zerO.R (V3.mk 7 8 1))]).length : Int))) ([(Op3.mk zerO.R (V3.mk 7 8 2))])) 0 (h.length : Int)) →
(True ∧
∀ z37 : List Op3,
(z37 = joL (lsub (lput (lput (lput (lput ((lrep (((g.length : Int) + 3)) (zerO))) 0 (lsub g 0 (zmin (g.length : Int) (g.length : Int)))) (g.length : Int) ([(Op3.mk zerO.R (V3.mk 7 8 0))])) (((g.length : Int) + (([(Op3.mk zerO.R (V3.mk 7 8 0))]).length : Int))) ([(Op3.mk zerO.R (V3.mk 7 8 1))])) ((((g.length : Int) + (([(Op3.mk zerO.R (V3.mk 7 8 0))]).length : Int)) + (([(Op3.mk zerO.R (V3.mk 7 8 1))]).length : Int))) ([(Op3.mk zerO.R (V3.mk 7 8 2))])) 0 (g.length : Int)) (lsub (lput (lput (lput (lput ((lrep (((h.length : Int) + 3)) (zerO))) 0 (lsub h 0 (zmin (h.length : Int) (h.length : Int)))) (h.length : Int) ([(Op3.mk zerO.R (V3.mk 7 8 0))])) (((h.length : Int) + (([(Op3.mk zerO.R (V3.mk 7 8 0))]).length : Int))) ([(Op3.mk zerO.R (V3.mk 7 8 1))])) ((((h.length : Int) + (([(Op3.mk zerO.R (V3.mk 7 8 0))]).length : Int)) + (([(Op3.mk zerO.R (V3.mk 7 8 1))]).length : Int))) ([(Op3.mk zerO.R (V3.mk 7 8 2))])) 0 (h.length : Int)) →
∀ z39 : Int,
(z39 = joE (lsub (lput (lput (lput (lput ((lrep (((g.length : Int) + 3)) (zerO))) 0 (lsub g 0 (zmin (g.length : Int) (g.length : Int)))) (g.length : Int) ([(Op3.mk zerO.R (V3.mk 7 8 0))])) (((g.length : Int) + (([(Op3.mk zerO.R (V3.mk 7 8 0))]).length : Int))) ([(Op3.mk zerO.R (V3.mk 7 8 1))])) ((((g.length : Int) + (([(Op3.mk zerO.R (V3.mk 7 8 0))]).length : Int)) + (([(Op3.mk zerO.R (V3.mk 7 8 1))]).length : Int))) ([(Op3.mk zerO.R (V3.mk 7 8 2))])) 0 (g.length : Int)) (lsub (lput (lput (lput (lput ((lrep (((h.length : Int) + 3)) (zerO))) 0 (lsub h 0 (zmin (h.length : Int) (h.length : Int)))) (h.length : Int) ([(Op3.mk zerO.R (V3.mk 7 8 0))])) (((h.length : Int) + (([(Op3.mk zerO.R (V3.mk 7 8 0))]).length : Int))) ([(Op3.mk zerO.R (V3.mk 7 8 1))])) ((((h.length : Int) + (([(Op3.mk zerO.R (V3.mk 7 8 0))]).length : Int)) + (([(Op3.mk zerO.R (V3.mk 7 8 1))]).length : Int))) ([(Op3.mk zerO.R (V3.mk 7 8 2))])) 0 (h.length : Int)) →
(True ∧
∀ z41 : List Op3,
(z41 = heL (lsub (lput (lput (lput (lput ((lrep (((g.length : Int) + 3)) (zerO))) 0 (lsub g 0 (zmin (g.length : Int) (g.length : Int)))) (g.length : Int) ([(Op3.mk zerO.R (V3.mk 7 8 0))])) (((g.length : Int) + (([(Op3.mk zerO.R (V3.mk 7 8 0))]).length : Int))) ([(Op3.mk zerO.R (V3.mk 7 8 1))])) ((((g.length : Int) + (([(Op3.mk zerO.R (V3.mk 7 8 0))]).length : Int)) + (([(Op3.mk zerO.R (V3.mk 7 8 1))]).length : Int))) ([(Op3.mk zerO.R (V3.mk 7 8 2))])) 0 (g.length : Int)) →
∀ z43 : Int,
(z43 = chkE (lsub (lput (lput (lput (lput ((lrep (((g.length : Int) + 3)) (zerO))) 0 (lsub g 0 (zmin (g.length : Int) (g.length : Int)))) (g.length : Int) ([(Op3.mk zerO.R (V3.mk 7 8 0))])) (((g.length : Int) + (([(Op3.mk zerO.R (V3.mk 7 8 0))]).length : Int))) ([(Op3.mk zerO.R (V3.mk 7 8 1))])) ((((g.length : Int) + (([(Op3.mk zerO.R (V3.mk 7 8 0))]).length : Int)) + (([(Op3.mk zerO.R (V3.mk 7 8 1))]).length : Int))) ([(Op3.mk zerO.R (V3.mk 7 8 2))])) 0 (g.length : Int)) →
(True ∧
(True ∧
∀ z45 : List (List Int),
(z45 = csC (lsub (lput (lput (lput (lput ((lrep (((g.length : Int) + 3)) (zerO))) 0 (lsub g 0 (zmin (g.length : Int) (g.length : Int)))) (g.length : Int) ([(Op3.mk zerO.R (V3.mk 7 8 0))])) (((g.length : Int) + (([(Op3.mk zerO.R (V3.mk 7 8 0))]).length : Int))) ([(Op3.mk zerO.R (V3.mk 7 8 1))])) ((((g.length : Int) + (([(Op3.mk zerO.R (V3.mk 7 8 0))]).length : Int)) + (([(Op3.mk zerO.R (V3.mk 7 8 1))]).length : Int))) ([(Op3.mk zerO.R (V3.mk 7 8 2))])) 0 (g.length : Int)) (lsub (lput (lput (lput (lput ((lrep (((h.length : Int) + 3)) (zerO))) 0 (lsub h 0 (zmin (h.length : Int) (h.length : Int)))) (h.length : Int) ([(Op3.mk zerO.R (V3.mk 7 8 0))])) (((h.length : Int) + (([(Op3.mk zerO.R (V3.mk 7 8 0))]).length : Int))) ([(Op3.mk zerO.R (V3.mk 7 8 1))])) ((((h.length : Int) + (([(Op3.mk zerO.R (V3.mk 7 8 0))]).length : Int)) + (([(Op3.mk zerO.R (V3.mk 7 8 1))]).length : Int))) ([(Op3.mk zerO.R (V3.mk 7 8 2))])) 0 (h.length : Int)) →
∀ z47 : Int,
(z47 = boE (lsub (lput (lput (lput (lput ((lrep (((g.length : Int) + 3)) (zerO))) 0 (lsub g 0 (zmin (g.length : Int) (g.length : Int)))) (g.length : Int) ([(Op3.mk zerO.R (V3.mk 7 8 0))])) (((g.length : Int) + (([(Op3.mk zerO.R (V3.mk 7 8 0))]).length : Int))) ([(Op3.mk zerO.R (V3.mk 7 8 1))])) ((((g.length : Int) + (([(Op3.mk zerO.R (V3.mk 7 8 0))]).length : Int)) + (([(Op3.mk zerO.R (V3.mk 7 8 1))]).length : Int))) ([(Op3.mk zerO.R (V3.mk 7 8 2))])) 0 (g.length : Int)) (lsub (lput (lput (lput (lput ((lrep (((h.length : Int) + 3)) (zerO))) 0 (lsub h 0 (zmin (h.length : Int) (h.length : Int)))) (h.length : Int) ([(Op3.mk zerO.R (V3.mk 7 8 0))])) (((h.length : Int) + (([(Op3.mk zerO.R (V3.mk 7 8 0))]).length : Int))) ([(Op3.mk zerO.R (V3.mk 7 8 1))])) ((((h.length : Int) + (([(Op3.mk zerO.R (V3.mk 7 8 0))]).length : Int)) + (([(Op3.mk zerO.R (V3.mk 7 8 1))]).length : Int))) ([(Op3.mk zerO.R (V3.mk 7 8 2))])) 0 (h.length : Int)) →
(True ∧
∀ z49 : List (List Int),
(z49 = clC (lsub (lput (lput (lput (lput ((lrep (((g.length : Int) + 3)) (zerO))) 0 (lsub g 0 (zmin (g.length : Int) (g.length : Int)))) (g.length : Int) ([(Op3.mk zerO.R (V3.mk 7 8 0))])) (((g.length : Int) + (([(Op3.mk zerO.R (V3.mk 7 8 0))]).length : Int))) ([(Op3.mk zerO.R (V3.mk 7 8 1))])) ((((g.length : Int) + (([(Op3.mk zerO.R (V3.mk 7 8 0))]).length : Int)) + (([(Op3.mk zerO.R (V3.mk 7 8 1))]).length : Int))) ([(Op3.mk zerO.R (V3.mk 7 8 2))])) 0 (g.length : Int)) →
∀ z51 : Int,
(z51 = chkE (lsub (lput (lput (lput (lput ((lrep (((g.length : Int) + 3)) (zerO))) 0 (lsub g 0 (zmin (g.length : Int) (g.length : Int)))) (g.length : Int) ([(Op3.mk zerO.R (V3.mk 7 8 0))])) (((g.length : Int) + (([(Op3.mk zerO.R (V3.mk 7 8 0))]).length : Int))) ([(Op3.mk zerO.R (V3.mk 7 8 1))])) ((((g.length : Int) + (([(Op3.mk zerO.R (V3.mk 7 8 0))]).length : Int)) + (([(Op3.mk zerO.R (V3.mk 7 8 1))]).length : Int))) ([(Op3.mk zerO.R (V3.mk 7 8 2))])) 0 (g.length : Int)) →
(True ∧
(True ∧
∀ z53 : Bool,
(z53 = siB (lsub (lput (lput (lput (lput ((lrep (((g.length : Int) + 3)) (zerO))) 0 (lsub g 0 (zmin (g.length : Int) (g.length : Int)))) (g.length : Int) ([(Op3.mk zerO.R (V3.mk 7 8 0))])) (((g.length : Int) + (([(Op3.mk zerO.R (V3.mk 7 8 0))]).length : Int))) ([(Op3.mk zerO.R (V3.mk 7 8 1))])) ((((g.length : Int) + (([(Op3.mk zerO.R (V3.mk 7 8 0))]).length : Int)) + (([(Op3.mk zerO.R (V3.mk 7 8 1))]).length : Int))) ([(Op3.mk zerO.R (V3.mk 7 8 2))])) 0 (g.length : Int)) (lsub (lput (lput (lput (lput ((lrep (((h.length : Int) + 3)) (zerO))) 0 (lsub h 0 (zmin (h.length : Int) (h.length : Int)))) (h.length : Int) ([(Op3.mk zerO.R (V3.mk 7 8 0))])) (((h.length : Int) + (([(Op3.mk zerO.R (V3.mk 7 8 0))]).length : Int))) ([(Op3.mk zerO.R (V3.mk 7 8 1))])) ((((h.length : Int) + (([(Op3.mk zerO.R (V3.mk 7 8 0))]).length : Int)) + (([(Op3.mk zerO.R (V3.mk 7 8 1))]).length : Int))) ([(Op3.mk zerO.R (V3.mk 7 8 2))])) 0 (h.length : Int)) →
∀ z55 : Int,
(z55 = two (lsub (lput (lput (lput (lput ((lrep (((g.length : Int) + 3)) (zerO))) 0 (lsub g 0 (zmin (g.length : Int) (g.length : Int)))) (g.length : Int) ([(Op3.mk zerO.R (V3.mk 7 8 0))])) (((g.length : Int) + (([(Op3.mk zerO.R (V3.mk 7 8 0))]).length : Int))) ([(Op3.mk zerO.R (V3.mk 7 8 1))])) ((((g.length : Int) + (([(Op3.mk zerO.R (V3.mk 7 8 0))]).length : Int)) + (([(Op3.mk zerO.R (V3.mk 7 8 1))]).length : Int))) ([(Op3.mk zerO.R (V3.mk 7 8 2))])) 0 (g.length : Int)) (lsub (lput (lput (lput (lput ((lrep (((h.length : Int) + 3)) (zerO))) 0 (lsub h 0 (zmin (h.length : Int) (h.length : Int)))) (h.length : Int) ([(Op3.mk zerO.R (V3.mk 7 8 0))])) (((h.length : Int) + (([(Op3.mk zerO.R (V3.mk 7 8 0))]).length : Int))) ([(Op3.mk zerO.R (V3.mk 7 8 1))])) ((((h.length : Int) + (([(Op3.mk zerO.R (V3.mk 7 8 0))]).length : Int)) + (([(Op3.mk zerO.R (V3.mk 7 8 1))]).length : Int))) ([(Op3.mk zerO.R (V3.mk 7 8 2))])) 0 (h.length : Int)) →
(True ∧
∀ z57 : Bool,
(z57 = noB (lsub (lput (lput (lput (lput ((lrep (((g.length : Int) + 3)) (zerO))) 0 (lsub g 0 (zmin (g.length : Int) (g.length : Int)))) (g.length : Int) ([(Op3.mk zerO.R (V3.mk 7 8 0))])) (((g.length : Int) + (([(Op3.mk zerO.R (V3.mk 7 8 0))]).length : Int))) ([(Op3.mk zerO.R (V3.mk 7 8 1))])) ((((g.length : Int) + (([(Op3.mk zerO.R (V3.mk 7 8 0))]).length : Int)) + (([(Op3.mk zerO.R (V3.mk 7 8 1))]).length : Int))) ([(Op3.mk zerO.R (V3.mk 7 8 2))])) 0 (g.length : Int)) (lsub (lput (lput (lput (lput ((lrep (((h.length : Int) + 3)) (zerO))) 0 (lsub h 0 (zmin (h.length : Int) (h.length : Int)))) (h.length : Int) ([(Op3.mk zerO.R (V3.mk 7 8 0))])) (((h.length : Int) + (([(Op3.mk zerO.R (V3.mk 7 8 0))]).length : Int))) ([(Op3.mk zerO.R (V3.mk 7 8 1))])) ((((h.length : Int) + (([(Op3.mk zerO.R (V3.mk 7 8 0))]).length : Int)) + (([(Op3.mk zerO.R (V3.mk 7 8 1))]).length : Int))) ([(Op3.mk zerO.R (V3.mk 7 8 2))])) 0 (h.length : Int)) →
∀ z59 : Int,
(z59 = boE (lsub (lput (lput (lput (lput ((lrep (((g.length : Int) + 3)) (zerO))) 0 (lsub g 0 (zmin (g.length : Int) (g.length : Int)))) (g.length : Int) ([(Op3.mk zerO.R (V3.mk 7 8 0))])) (((g.length : Int) + (([(Op3.mk zerO.R (V3.mk 7 8 0))]).length : Int))) ([(Op3.mk zerO.R (V3.mk 7 8 1))])) ((((g.length : Int) + (([(Op3.mk zerO.R (V3.mk 7 8 0))]).length : Int)) + (([(Op3.mk zerO.R (V3.mk 7 8 1))]).length : Int))) ([(Op3.mk zerO.R (V3.mk 7 8 2))])) 0 (g.length : Int)) (lsub (lput (lput (lput (lput ((lrep (((h.length : Int) + 3)) (zerO))) 0 (lsub h 0 (zmin (h.length : Int) (h.length : Int)))) (h.length : Int) ([(Op3.mk zerO.R (V3.mk 7 8 0))])) (((h.length : Int) + (([(Op3.mk zerO.R (V3.mk 7 8 0))]).length : Int))) ([(Op3.mk zerO.R (V3.mk 7 8 1))])) ((((h.length : Int) + (([(Op3.mk zerO.R (V3.mk 7 8 0))]).length : Int)) + (([(Op3.mk zerO.R (V3.mk 7 8 1))]).length : Int))) ([(Op3.mk zerO.R (V3.mk 7 8 2))])) 0 (h.length : Int)) →
((leP 0 (g.length : Int) ∧
 (leP (g.length : Int) (((g.length : Int) + 3)) ∧
 lfit 96 ((lrep (((g.length : Int) + 3)) (zerO))))) ∧
(True ∧
(leP (((g.length : Int) + (([(Op3.mk zerO.R (V3.mk 7 8 0))]).length : Int))) (((lput ((lrep (((g.length : Int) + 3)) (zerO))) 0 (lsub g 0 (zmin (g.length : Int) (g.length : Int)))).length : Int)) ∧
(leP ((((g.length : Int) + (([(Op3.mk zerO.R (V3.mk 7 8 0))]).length : Int)) + (([(Op3.mk zerO.R (V3.mk 7 8 1))]).length : Int))) (((lput (lput ((lrep (((g.length : Int) + 3)) (zerO))) 0 (lsub g 0 (zmin (g.length : Int) (g.length : Int)))) (g.length : Int) ([(Op3.mk zerO.R (V3.mk 7 8 0))])).length : Int)) ∧
(leP (((((g.length : Int) + (([(Op3.mk zerO.R (V3.mk 7 8 0))]).length : Int)) + (([(Op3.mk zerO.R (V3.mk 7 8 1))]).length : Int)) + (([(Op3.mk zerO.R (V3.mk 7 8 2))]).length : Int))) (((lput (lput (lput ((lrep (((g.length : Int) + 3)) (zerO))) 0 (lsub g 0 (zmin (g.length : Int) (g.length : Int)))) (g.length : Int) ([(Op3.mk zerO.R (V3.mk 7 8 0))])) (((g.length : Int) + (([(Op3.mk zerO.R (V3.mk 7 8 0))]).length : Int))) ([(Op3.mk zerO.R (V3.mk 7 8 1))])).length : Int)) ∧
((leP 0 0 ∧
 (leP 0 (g.length : Int) ∧
 leP (g.length : Int) (((((g.length : Int) + (([(Op3.mk zerO.R (V3.mk 7 8 0))]).length : Int)) + (([(Op3.mk zerO.R (V3.mk 7 8 1))]).length : Int)) + (([(Op3.mk zerO.R (V3.mk 7 8 2))]).length : Int))))) ∧
((leP 0 (h.length : Int) ∧
 (leP (h.length : Int) (((h.length : Int) + 3)) ∧
 lfit 96 ((lrep (((h.length : Int) + 3)) (zerO))))) ∧
(True ∧
(leP (((h.length : Int) + (([(Op3.mk zerO.R (V3.mk 7 8 0))]).length : Int))) (((lput ((lrep (((h.length : Int) + 3)) (zerO))) 0 (lsub h 0 (zmin (h.length : Int) (h.length : Int)))).length : Int)) ∧
(leP ((((h.length : Int) + (([(Op3.mk zerO.R (V3.mk 7 8 0))]).length : Int)) + (([(Op3.mk zerO.R (V3.mk 7 8 1))]).length : Int))) (((lput (lput ((lrep (((h.length : Int) + 3)) (zerO))) 0 (lsub h 0 (zmin (h.length : Int) (h.length : Int)))) (h.length : Int) ([(Op3.mk zerO.R (V3.mk 7 8 0))])).length : Int)) ∧
(leP (((((h.length : Int) + (([(Op3.mk zerO.R (V3.mk 7 8 0))]).length : Int)) + (([(Op3.mk zerO.R (V3.mk 7 8 1))]).length : Int)) + (([(Op3.mk zerO.R (V3.mk 7 8 2))]).length : Int))) (((lput (lput (lput ((lrep (((h.length : Int) + 3)) (zerO))) 0 (lsub h 0 (zmin (h.length : Int) (h.length : Int)))) (h.length : Int) ([(Op3.mk zerO.R (V3.mk 7 8 0))])) (((h.length : Int) + (([(Op3.mk zerO.R (V3.mk 7 8 0))]).length : Int))) ([(Op3.mk zerO.R (V3.mk 7 8 1))])).length : Int)) ∧
((leP 0 0 ∧
 (leP 0 (h.length : Int) ∧
 leP (h.length : Int) (((((h.length : Int) + (([(Op3.mk zerO.R (V3.mk 7 8 0))]).length : Int)) + (([(Op3.mk zerO.R (V3.mk 7 8 1))]).length : Int)) + (([(Op3.mk zerO.R (V3.mk 7 8 2))]).length : Int))))) ∧
(True ∧
∀ z61 : Bool,
(z61 = smO (lsub (lput (lput (lput (lput ((lrep (((g.length : Int) + 3)) (zerO))) 0 (lsub g 0 (zmin (g.length : Int) (g.length : Int)))) (g.length : Int) ([(Op3.mk zerO.R (V3.mk 7 8 0))])) (((g.length : Int) + (([(Op3.mk zerO.R (V3.mk 7 8 0))]).length : Int))) ([(Op3.mk zerO.R (V3.mk 7 8 1))])) ((((g.length : Int) + (([(Op3.mk zerO.R (V3.mk 7 8 0))]).length : Int)) + (([(Op3.mk zerO.R (V3.mk 7 8 1))]).length : Int))) ([(Op3.mk zerO.R (V3.mk 7 8 2))])) 0 (((((g.length : Int) + (([(Op3.mk zerO.R (V3.mk 7 8 0))]).length : Int)) + (([(Op3.mk zerO.R (V3.mk 7 8 1))]).length : Int)) + (([(Op3.mk zerO.R (V3.mk 7 8 2))]).length : Int)))) (lsub (lput (lput (lput (lput ((lrep (((g.length : Int) + 3)) (zerO))) 0 (lsub g 0 (zmin (g.length : Int) (g.length : Int)))) (g.length : Int) ([(Op3.mk zerO.R (V3.mk 7 8 0))])) (((g.length : Int) + (([(Op3.mk zerO.R (V3.mk 7 8 0))]).length : Int))) ([(Op3.mk zerO.R (V3.mk 7 8 1))])) ((((g.length : Int) + (([(Op3.mk zerO.R (V3.mk 7 8 0))]).length : Int)) + (([(Op3.mk zerO.R (V3.mk 7 8 1))]).length : Int))) ([(Op3.mk zerO.R (V3.mk 7 8 2))])) 0 (((((g.length : Int) + (([(Op3.mk zerO.R (V3.mk 7 8 0))]).length : Int)) + (([(Op3.mk zerO.R (V3.mk 7 8 1))]).length : Int)) + (([(Op3.mk zerO.R (V3.mk 7 8 2))]).length : Int)))) →
(((!z61) = true →
 (false, ()) = (true, ())) ∧
((!z61) = false →
(True ∧
∀ z64 : Bool,
(z64 = smO (lsub (lput (lput (lput (lput ((lrep (((h.length : Int) + 3)) (zerO))) 0 (lsub h 0 (zmin (h.length : Int) (h.length : Int)))) (h.length : Int) ([(Op3.mk zerO.R (V3.mk 7 8 0))])) (((h.length : Int) + (([(Op3.mk zerO.R (V3.mk 7 8 0))]).length : Int))) ([(Op3.mk zerO.R (V3.mk 7 8 1))])) ((((h.length : Int) + (([(Op3.mk zerO.R (V3.mk 7 8 0))]).length : Int)) + (([(Op3.mk zerO.R (V3.mk 7 8 1))]).length : Int))) ([(Op3.mk zerO.R (V3.mk 7 8 2))])) 0 (((((h.length : Int) + (([(Op3.mk zerO.R (V3.mk 7 8 0))]).length : Int)) + (([(Op3.mk zerO.R (V3.mk 7 8 1))]).length : Int)) + (([(Op3.mk zerO.R (V3.mk 7 8 2))]).length : Int)))) (lsub (lput (lput (lput (lput ((lrep (((h.length : Int) + 3)) (zerO))) 0 (lsub h 0 (zmin (h.length : Int) (h.length : Int)))) (h.length : Int) ([(Op3.mk zerO.R (V3.mk 7 8 0))])) (((h.length : Int) + (([(Op3.mk zerO.R (V3.mk 7 8 0))]).length : Int))) ([(Op3.mk zerO.R (V3.mk 7 8 1))])) ((((h.length : Int) + (([(Op3.mk zerO.R (V3.mk 7 8 0))]).length : Int)) + (([(Op3.mk zerO.R (V3.mk 7 8 1))]).length : Int))) ([(Op3.mk zerO.R (V3.mk 7 8 2))])) 0 (((((h.length : Int) + (([(Op3.mk zerO.R (V3.mk 7 8 0))]).length : Int)) + (([(Op3.mk zerO.R (V3.mk 7 8 1))]).length : Int)) + (([(Op3.mk zerO.R (V3.mk 7 8 2))]).length : Int)))) →
(((!z64) = true →
 (false, ()) = (true, ())) ∧
((!z64) = false →
(mmI (lput (lput (lput (lput ((lrep (((g.length : Int) + 3)) (zerO))) 0 (lsub g 0 (zmin (g.length : Int) (g.length : Int)))) (g.length : Int) ([(Op3.mk zerO.R (V3.mk 7 8 0))])) (((g.length : Int) + (([(Op3.mk zerO.R (V3.mk 7 8 0))]).length : Int))) ([(Op3.mk zerO.R (V3.mk 7 8 1))])) ((((g.length : Int) + (([(Op3.mk zerO.R (V3.mk 7 8 0))]).length : Int)) + (([(Op3.mk zerO.R (V3.mk 7 8 1))]).length : Int))) ([(Op3.mk zerO.R (V3.mk 7 8 2))])) 0 ∧
∀ z67 : List Op3,
∀ z68 : Int,
((decide ((-9223372036854775808) ≤ z68)) = true →
((decide (z68 ≤ 9223372036854775807)) = true →
(mmI z67 z68 →
(eqP (z67.length : Int) (((lput (lput (lput (lput ((lrep (((g.length : Int) + 3)) (zerO))) 0 (lsub g 0 (zmin (g.length : Int) (g.length : Int)))) (g.length : Int) ([(Op3.mk zerO.R (V3.mk 7 8 0))])) (((g.length : Int) + (([(Op3.mk zerO.R (V3.mk 7 8 0))]).length : Int))) ([(Op3.mk zerO.R (V3.mk 7 8 1))])) ((((g.length : Int) + (([(Op3.mk zerO.R (V3.mk 7 8 0))]).length : Int)) + (([(Op3.mk zerO.R (V3.mk 7 8 1))]).length : Int))) ([(Op3.mk zerO.R (V3.mk 7 8 2))])).length : Int)) →
(((decide (z68 < ((((g.length : Int) + (([(Op3.mk zerO.R (V3.mk 7 8 0))]).length : Int)) + (([(Op3.mk zerO.R (V3.mk 7 8 1))]).length : Int)) + (([(Op3.mk zerO.R (V3.mk 7 8 2))]).length : Int)))) = true →
 (inR z68 (((((g.length : Int) + (([(Op3.mk zerO.R (V3.mk 7 8 0))]).length : Int)) + (([(Op3.mk zerO.R (V3.mk 7 8 1))]).length : Int)) + (([(Op3.mk zerO.R (V3.mk 7 8 2))]).length : Int))) ∧
 (mmI (lset z67 z68 ((Op3.mk zerO.R (V3.mk 1 1 1)))) ((w64 (z68 + 1))) ∧
 ((decide (0 ≤ mmMu (lset z67 z68 ((Op3.mk zerO.R (V3.mk 1 1 1)))) ((w64 (z68 + 1))))) = true ∧
 (decide (mmMu (lset z67 z68 ((Op3.mk zerO.R (V3.mk 1 1 1)))) ((w64 (z68 + 1))) < mmMu z67 z68)) = true)))) ∧
((decide (z68 < ((((g.length : Int) + (([(Op3.mk zerO.R (V3.mk 7 8 0))]).length : Int)) + (([(Op3.mk zerO.R (V3.mk 7 8 1))]).length : Int)) + (([(Op3.mk zerO.R (V3.mk 7 8 2))]).length : Int)))) = false →
(mmI (lput (lput (lput (lput ((lrep (((h.length : Int) + 3)) (zerO))) 0 (lsub h 0 (zmin (h.length : Int) (h.length : Int)))) (h.length : Int) ([(Op3.mk zerO.R (V3.mk 7 8 0))])) (((h.length : Int) + (([(Op3.mk zerO.R (V3.mk 7 8 0))]).length : Int))) ([(Op3.mk zerO.R (V3.mk 7 8 1))])) ((((h.length : Int) + (([(Op3.mk zerO.R (V3.mk 7 8 0))]).length : Int)) + (([(Op3.mk zerO.R (V3.mk 7 8 1))]).length : Int))) ([(Op3.mk zerO.R (V3.mk 7 8 2))])) 0 ∧
∀ z74 : List Op3,
∀ z75 : Int,
((decide ((-9223372036854775808) ≤ z75)) = true →
((decide (z75 ≤ 9223372036854775807)) = true →
(mmI z74 z75 →
(eqP (z74.length : Int) (((lput (lput (lput (lput ((lrep (((h.length : Int) + 3)) (zerO))) 0 (lsub h 0 (zmin (h.length : Int) (h.length : Int)))) (h.length : Int) ([(Op3.mk zerO.R (V3.mk 7 8 0))])) (((h.length : Int) + (([(Op3.mk zerO.R (V3.mk 7 8 0))]).length : Int))) ([(Op3.mk zerO.R (V3.mk 7 8 1))])) ((((h.length : Int) + (([(Op3.mk zerO.R (V3.mk 7 8 0))]).length : Int)) + (([(Op3.mk zerO.R (V3.mk 7 8 1))]).length : Int))) ([(Op3.mk zerO.R (V3.mk 7 8 2))])).length : Int)) →
(((decide (z75 < ((((h.length : Int) + (([(Op3.mk zerO.R (V3.mk 7 8 0))]).length : Int)) + (([(Op3.mk zerO.R (V3.mk 7 8 1))]).length : Int)) + (([(Op3.mk zerO.R (V3.mk 7 8 2))]).length : Int)))) = true →
 (inR z75 (((((h.length : Int) + (([(Op3.mk zerO.R (V3.mk 7 8 0))]).length : Int)) + (([(Op3.mk zerO.R (V3.mk 7 8 1))]).length : Int)) + (([(Op3.mk zerO.R (V3.mk 7 8 2))]).length : Int))) ∧
 (mmI (lset z74 z75 ((Op3.mk zerO.R (V3.mk 2 2 2)))) ((w64 (z75 + 1))) ∧
 ((decide (0 ≤ mmMu (lset z74 z75 ((Op3.mk zerO.R (V3.mk 2 2 2)))) ((w64 (z75 + 1))))) = true ∧
 (decide (mmMu (lset z74 z75 ((Op3.mk zerO.R (V3.mk 2 2 2)))) ((w64 (z75 + 1))) < mmMu z74 z75)) = true)))) ∧
((decide (z75 < ((((h.length : Int) + (([(Op3.mk zerO.R (V3.mk 7 8 0))]).length : Int)) + (([(Op3.mk zerO.R (V3.mk 7 8 1))]).length : Int)) + (([(Op3.mk zerO.R (V3.mk 7 8 2))]).length : Int)))) = false →
(True ∧
∀ z81 : List Op3,
(z81 = meL g h →
∀ z83 : Int,
(z83 = two g h →
(True ∧
∀ z85 : List Op3,
(z85 = joL g h →
∀ z87 : Int,
(z87 = joE g h →
(True ∧
∀ z89 : List Op3,
(z89 = heL g →
∀ z91 : Int,
(z91 = chkE g →
(True ∧
∀ z93 : List (List Int),
(z93 = csC g h →
∀ z95 : Int,
(z95 = boE g h →
(True ∧
∀ z97 : List (List Int),
(z97 = clC g →
∀ z99 : Int,
(z99 = chkE g →
(True ∧
(((!smO z5 z81) = true →
 (false, ()) = (true, ())) ∧
((!smO z5 z81) = false →
(mmI z5 0 ∧
∀ z102 : List Op3,
∀ z103 : Int,
((decide ((-9223372036854775808) ≤ z103)) = true →
((decide (z103 ≤ 9223372036854775807)) = true →
(mmI z102 z103 →
(eqP (z102.length : Int) (z5.length : Int) →
(((decide (z103 < (z5.length : Int))) = true →
 (inB z102 z103 ∧
 (inB z102 z103 ∧
 (mmI (lset z102 z103 ((Op3.mk (((z102.getD (z103).toNat zerO)).R) ((V3.mk ((w64 (((((z102.getD (z103).toNat zerO)).T).x + 100)))) ((((z102.getD (z103).toNat zerO)).T).y) ((((z102.getD (z103).toNat zerO)).T).z)))))) ((w64 (z103 + 1))) ∧
 ((decide (0 ≤ mmMu (lset z102 z103 ((Op3.mk (((z102.getD (z103).toNat zerO)).R) ((V3.mk ((w64 (((((z102.getD (z103).toNat zerO)).T).x + 100)))) ((((z102.getD (z103).toNat zerO)).T).y) ((((z102.getD (z103).toNat zerO)).T).z)))))) ((w64 (z103 + 1))))) = true ∧
 (decide (mmMu (lset z102 z103 ((Op3.mk (((z102.getD (z103).toNat zerO)).R) ((V3.mk ((w64 (((((z102.getD (z103).toNat zerO)).T).x + 100)))) ((((z102.getD (z103).toNat zerO)).T).y) ((((z102.getD (z103).toNat zerO)).T).z)))))) ((w64 (z103 + 1))) < mmMu z102 z103)) = true))))) ∧
((decide (z103 < (z5.length : Int))) = false →
(True ∧
(lfit 96 (lapp z102 [oneO]) ∧
(((!(decide (((lapp z102 [oneO]).length : Int) = ((z102.length : Int) + 1)))) = true →
 (false, ()) = (true, ())) ∧
((!(decide (((lapp z102 [oneO]).length : Int) = ((z102.length : Int) + 1)))) = false →
(True ∧
(((!smO z9 z85) = true →
 (false, ()) = (true, ())) ∧
((!smO z9 z85) = false →
(True ∧
(((!smO z13 z89) = true →
 (false, ()) = (true, ())) ∧
((!smO z13 z89) = false →
(True ∧
(((!smO z33 z81) = true →
 (false, ()) = (true, ())) ∧
((!smO z33 z81) = false →
(True ∧
(((!smO z37 z85) = true →
 (false, ()) = (true, ())) ∧
((!smO z37 z85) = false →
(True ∧
(((!smO z41 z89) = true →
 (false, ()) = (true, ())) ∧
((!smO z41 z89) = false →
(True ∧
(((!smO z9 z85) = true →
 (false, ()) = (true, ())) ∧
((!smO z9 z85) = false →
(mmI z9 0 ∧
∀ z116 : List Op3,
∀ z117 : Int,
((decide ((-9223372036854775808) ≤ z117)) = true →
((decide (z117 ≤ 9223372036854775807)) = true →
(mmI z116 z117 →
(eqP (z116.length : Int) (z9.length : Int) →
(((decide (z117 < (z9.length : Int))) = true →
 (inB z116 z117 ∧
 (inB z116 z117 ∧
 (mmI (lset z116 z117 ((Op3.mk (((z116.getD (z117).toNat zerO)).R) ((V3.mk ((w64 (((((z116.getD (z117).toNat zerO)).T).x + 100)))) ((((z116.getD (z117).toNat zerO)).T).y) ((((z116.getD (z117).toNat zerO)).T).z)))))) ((w64 (z117 + 1))) ∧
 ((decide (0 ≤ mmMu (lset z116 z117 ((Op3.mk (((z116.getD (z117).toNat zerO)).R) ((V3.mk ((w64 (((((z116.getD (z117).toNat zerO)).T).x + 100)))) ((((z116.getD (z117).toNat zerO)).T).y) ((((z116.getD (z117).toNat zerO)).T).z)))))) ((w64 (z117 + 1))))) = true ∧
 (decide (mmMu (lset z116 z117 ((Op3.mk (((z116.getD (z117).toNat zerO)).R) ((V3.mk ((w64 (((((z116.getD (z117).toNat zerO)).T).x + 100)))) ((((z116.getD (z117).toNat zerO)).T).y) ((((z116.getD (z117).toNat zerO)).T).z)))))) ((w64 (z117 + 1))) < mmMu z116 z117)) = true))))) ∧
((decide (z117 < (z9.length : Int))) = false →
(True ∧
(lfit 96 (lapp z116 [oneO]) ∧
(((!(decide (((lapp z116 [oneO]).length : Int) = ((z116.length : Int) + 1)))) = true →
 (false, ()) = (true, ())) ∧
((!(decide (((lapp z116 [oneO]).length : Int) = ((z116.length : Int) + 1)))) = false →
(True ∧
(((!smO z13 z89) = true →
 (false, ()) = (true, ())) ∧
((!smO z13 z89) = false →
(True ∧
(((!smO z33 z81) = true →
 (false, ()) = (true, ())) ∧
((!smO z33 z81) = false →
(True ∧
(((!smO z37 z85) = true →
 (false, ()) = (true, ())) ∧
((!smO z37 z85) = false →
(True ∧
(((!smO z41 z89) = true →
 (false, ()) = (true, ())) ∧
((!smO z41 z89) = false →
(True ∧
(((!smO z13 z89) = true →
 (false, ()) = (true, ())) ∧
((!smO z13 z89) = false →
(mmI z13 0 ∧
∀ z129 : List Op3,
∀ z130 : Int,
((decide ((-9223372036854775808) ≤ z130)) = true →
((decide (z130 ≤ 9223372036854775807)) = true →
(mmI z129 z130 →
(eqP (z129.length : Int) (z13.length : Int) →
(((decide (z130 < (z13.length : Int))) = true →
 (inB z129 z130 ∧
 (inB z129 z130 ∧
 (mmI (lset z129 z130 ((Op3.mk (((z129.getD (z130).toNat zerO)).R) ((V3.mk ((w64 (((((z129.getD (z130).toNat zerO)).T).x + 100)))) ((((z129.getD (z130).toNat zerO)).T).y) ((((z129.getD (z130).toNat zerO)).T).z)))))) ((w64 (z130 + 1))) ∧
 ((decide (0 ≤ mmMu (lset z129 z130 ((Op3.mk (((z129.getD (z130).toNat zerO)).R) ((V3.mk ((w64 (((((z129.getD (z130).toNat zerO)).T).x + 100)))) ((((z129.getD (z130).toNat zerO)).T).y) ((((z129.getD (z130).toNat zerO)).T).z)))))) ((w64 (z130 + 1))))) = true ∧
 (decide (mmMu (lset z129 z130 ((Op3.mk (((z129.getD (z130).toNat zerO)).R) ((V3.mk ((w64 (((((z129.getD (z130).toNat zerO)).T).x + 100)))) ((((z129.getD (z130).toNat zerO)).T).y) ((((z129.getD (z130).toNat zerO)).T).z)))))) ((w64 (z130 + 1))) < mmMu z129 z130)) = true))))) ∧
((decide (z130 < (z13.length : Int))) = false →
(True ∧
(lfit 96 (lapp z129 [oneO]) ∧
(((!(decide (((lapp z129 [oneO]).length : Int) = ((z129.length : Int) + 1)))) = true →
 (false, ()) = (true, ())) ∧
((!(decide (((lapp z129 [oneO]).length : Int) = ((z129.length : Int) + 1)))) = false →
(True ∧
(((!smO z33 z81) = true →
 (false, ()) = (true, ())) ∧
((!smO z33 z81) = false →
(True ∧
(((!smO z37 z85) = true →
 (false, ()) = (true, ())) ∧
((!smO z37 z85) = false →
(True ∧
(((!smO z41 z89) = true →
 (false, ()) = (true, ())) ∧
((!smO z41 z89) = false →
(True ∧
(((!smO z33 z81) = true →
 (false, ()) = (true, ())) ∧
((!smO z33 z81) = false →
(mmI z33 0 ∧
∀ z141 : List Op3,
∀ z142 : Int,
((decide ((-9223372036854775808) ≤ z142)) = true →
((decide (z142 ≤ 9223372036854775807)) = true →
(mmI z141 z142 →
(eqP (z141.length : Int) (z33.length : Int) →
(((decide (z142 < (z33.length : Int))) = true →
 (inB z141 z142 ∧
 (inB z141 z142 ∧
 (mmI (lset z141 z142 ((Op3.mk (((z141.getD (z142).toNat zerO)).R) ((V3.mk ((w64 (((((z141.getD (z142).toNat zerO)).T).x + 100)))) ((((z141.getD (z142).toNat zerO)).T).y) ((((z141.getD (z142).toNat zerO)).T).z)))))) ((w64 (z142 + 1))) ∧
 ((decide (0 ≤ mmMu (lset z141 z142 ((Op3.mk (((z141.getD (z142).toNat zerO)).R) ((V3.mk ((w64 (((((z141.getD (z142).toNat zerO)).T).x + 100)))) ((((z141.getD (z142).toNat zerO)).T).y) ((((z141.getD (z142).toNat zerO)).T).z)))))) ((w64 (z142 + 1))))) = true ∧
 (decide (mmMu (lset z141 z142 ((Op3.mk (((z141.getD (z142).toNat zerO)).R) ((V3.mk ((w64 (((((z141.getD (z142).toNat zerO)).T).x + 100)))) ((((z141.getD (z142).toNat zerO)).T).y) ((((z141.getD (z142).toNat zerO)).T).z)))))) ((w64 (z142 + 1))) < mmMu z141 z142)) = true))))) ∧
((decide (z142 < (z33.length : Int))) = false →
(True ∧
(lfit 96 (lapp z141 [oneO]) ∧
(((!(decide (((lapp z141 [oneO]).length : Int) = ((z141.length : Int) + 1)))) = true →
 (false, ()) = (true, ())) ∧
((!(decide (((lapp z141 [oneO]).length : Int) = ((z141.length : Int) + 1)))) = false →
(True ∧
(((!smO z37 z85) = true →
 (false, ()) = (true, ())) ∧
((!smO z37 z85) = false →
(True ∧
(((!smO z41 z89) = true →
 (false, ()) = (true, ())) ∧
((!smO z41 z89) = false →
(True ∧
(((!smO z37 z85) = true →
 (false, ()) = (true, ())) ∧
((!smO z37 z85) = false →
(mmI z37 0 ∧
∀ z152 : List Op3,
∀ z153 : Int,
((decide ((-9223372036854775808) ≤ z153)) = true →
((decide (z153 ≤ 9223372036854775807)) = true →
(mmI z152 z153 →
(eqP (z152.length : Int) (z37.length : Int) →
(((decide (z153 < (z37.length : Int))) = true →
 (inB z152 z153 ∧
 (inB z152 z153 ∧
 (mmI (lset z152 z153 ((Op3.mk (((z152.getD (z153).toNat zerO)).R) ((V3.mk ((w64 (((((z152.getD (z153).toNat zerO)).T).x + 100)))) ((((z152.getD (z153).toNat zerO)).T).y) ((((z152.getD (z153).toNat zerO)).T).z)))))) ((w64 (z153 + 1))) ∧
 ((decide (0 ≤ mmMu (lset z152 z153 ((Op3.mk (((z152.getD (z153).toNat zerO)).R) ((V3.mk ((w64 (((((z152.getD (z153).toNat zerO)).T).x + 100)))) ((((z152.getD (z153).toNat zerO)).T).y) ((((z152.getD (z153).toNat zerO)).T).z)))))) ((w64 (z153 + 1))))) = true ∧
 (decide (mmMu (lset z152 z153 ((Op3.mk (((z152.getD (z153).toNat zerO)).R) ((V3.mk ((w64 (((((z152.getD (z153).toNat zerO)).T).x + 100)))) ((((z152.getD (z153).toNat zerO)).T).y) ((((z152.getD (z153).toNat zerO)).T).z)))))) ((w64 (z153 + 1))) < mmMu z152 z153)) = true))))) ∧
((decide (z153 < (z37.length : Int))) = false →
(True ∧
(lfit 96 (lapp z152 [oneO]) ∧
(((!(decide (((lapp z152 [oneO]).length : Int) = ((z152.length : Int) + 1)))) = true →
 (false, ()) = (true, ())) ∧
((!(decide (((lapp z152 [oneO]).length : Int) = ((z152.length : Int) + 1)))) = false →
(True ∧
(((!smO z41 z89) = true →
 (false, ()) = (true, ())) ∧
((!smO z41 z89) = false →
(True ∧
(((!smO z41 z89) = true →
 (false, ()) = (true, ())) ∧
((!smO z41 z89) = false →
(mmI z41 0 ∧
∀ z162 : List Op3,
∀ z163 : Int,
((decide ((-9223372036854775808) ≤ z163)) = true →
((decide (z163 ≤ 9223372036854775807)) = true →
(mmI z162 z163 →
(eqP (z162.length : Int) (z41.length : Int) →
(((decide (z163 < (z41.length : Int))) = true →
 (inB z162 z163 ∧
 (inB z162 z163 ∧
 (mmI (lset z162 z163 ((Op3.mk (((z162.getD (z163).toNat zerO)).R) ((V3.mk ((w64 (((((z162.getD (z163).toNat zerO)).T).x + 100)))) ((((z162.getD (z163).toNat zerO)).T).y) ((((z162.getD (z163).toNat zerO)).T).z)))))) ((w64 (z163 + 1))) ∧
 ((decide (0 ≤ mmMu (lset z162 z163 ((Op3.mk (((z162.getD (z163).toNat zerO)).R) ((V3.mk ((w64 (((((z162.getD (z163).toNat zerO)).T).x + 100)))) ((((z162.getD (z163).toNat zerO)).T).y) ((((z162.getD (z163).toNat zerO)).T).z)))))) ((w64 (z163 + 1))))) = true ∧
 (decide (mmMu (lset z162 z163 ((Op3.mk (((z162.getD (z163).toNat zerO)).R) ((V3.mk ((w64 (((((z162.getD (z163).toNat zerO)).T).x + 100)))) ((((z162.getD (z163).toNat zerO)).T).y) ((((z162.getD (z163).toNat zerO)).T).z)))))) ((w64 (z163 + 1))) < mmMu z162 z163)) = true))))) ∧
((decide (z163 < (z41.length : Int))) = false →
(True ∧
(lfit 96 (lapp z162 [oneO]) ∧
(((!(decide (((lapp z162 [oneO]).length : Int) = ((z162.length : Int) + 1)))) = true →
 (false, ()) = (true, ())) ∧
((!(decide (((lapp z162 [oneO]).length : Int) = ((z162.length : Int) + 1)))) = false →
(True ∧
(((!smC z17 z93) = true →
 (false, ()) = (true, ())) ∧
((!smC z17 z93) = false →
(lfit 24 (lapp [] z17) ∧
(True ∧
(((!smC z21 z97) = true →
 (false, ()) = (true, ())) ∧
((!smC z21 z97) = false →
(lfit 24 (lapp (lapp [] z17) z21) ∧
(True ∧
(((!smC z45 z93) = true →
 (false, ()) = (true, ())) ∧
((!smC z45 z93) = false →
(lfit 24 (lapp (lapp (lapp [] z17) z21) z45) ∧
(True ∧
(((!smC z49 z97) = true →
 (false, ()) = (true, ())) ∧
((!smC z49 z97) = false →
(lfit 24 (lapp (lapp (lapp (lapp [] z17) z21) z45) z49) ∧
(mkO (lapp (lapp (lapp (lapp [] z17) z21) z45) z49) 0 ∧
∀ z174 : List (List Int),
∀ z175 : Int,
((decide ((-9223372036854775808) ≤ z175)) = true →
((decide (z175 ≤ 9223372036854775807)) = true →
(mkO z174 z175 →
(eqLs (lensI z174) (lensI (lapp (lapp (lapp (lapp [] z17) z21) z45) z49)) →
(((decide (z175 < ((lapp (lapp (lapp (lapp [] z17) z21) z45) z49).length : Int))) = true →
 (inB z174 z175 ∧
 (mkN z174 z175 0 ∧
 ∀ z181 : List (List Int),
 ∀ z182 : Int,
 ((decide ((-9223372036854775808) ≤ z182)) = true →
 ((decide (z182 ≤ 9223372036854775807)) = true →
 (mkN z181 z175 z182 →
 (eqLs (lensI z181) (lensI z174) →
 (((decide (z182 < (((z174.getD (z175).toNat [])).length : Int))) = true →
  (inB z181 z175 ∧
  (inB ((z181.getD (z175).toNat [])) z182 ∧
  (mkN (lset z181 z175 (lset ((z181.getD (z175).toNat [])) z182 ((w64 (((w64 (1000 * z175)) + z182)))))) z175 ((w64 (z182 + 1))) ∧
  ((decide (0 ≤ rwMu (lset z181 z175 (lset ((z181.getD (z175).toNat [])) z182 ((w64 (((w64 (1000 * z175)) + z182)))))) z175 ((w64 (z182 + 1))))) = true ∧
  (decide (rwMu (lset z181 z175 (lset ((z181.getD (z175).toNat [])) z182 ((w64 (((w64 (1000 * z175)) + z182)))))) z175 ((w64 (z182 + 1))) < rwMu z181 z175 z182)) = true))))) ∧
 ((decide (z182 < (((z174.getD (z175).toNat [])).length : Int))) = false →
 (mkO z181 ((w64 (z175 + 1))) ∧
 ((decide (0 ≤ ckMu z181 ((w64 (z175 + 1))))) = true ∧
 (decide (ckMu z181 ((w64 (z175 + 1))) < ckMu z174 z175)) = true))))))))))) ∧
((decide (z175 < ((lapp (lapp (lapp (lapp [] z17) z21) z45) z49).length : Int))) = false →
(eqP 0 0 ∧
(eqP (z174.length : Int) (z174.length : Int) ∧
(dupFit z174 ∧
(cgI 0 ∧
∀ z181 : Int,
((decide ((-9223372036854775808) ≤ z181)) = true →
((decide (z181 ≤ 9223372036854775807)) = true →
(cgI z181 →
(((decide (z181 < (z174.length : Int))) = true →
 (inB z174 z181 ∧
 (inB z174 z181 ∧
 (cgI 0 ∧
 ∀ z186 : Int,
 ((decide ((-9223372036854775808) ≤ z186)) = true →
 ((decide (z186 ≤ 9223372036854775807)) = true →
 (cgI z186 →
 (((decide (z186 < (((z174.getD (z181).toNat [])).length : Int))) = true →
  (inB z174 z181 ∧
  (inB ((z174.getD (z181).toNat [])) z186 ∧
  (((!(decide ((((z174.getD (z181).toNat [])).getD (z186).toNat 0) = (w64 (((w64 (1000 * z181)) + z186)))))) = true →
   (false, ()) = (true, ())) ∧
  ((!(decide ((((z174.getD (z181).toNat [])).getD (z186).toNat 0) = (w64 (((w64 (1000 * z181)) + z186)))))) = false →
  (inB (groL z174) z181 ∧
  (inB (((groL z174).getD (z181).toNat [])) z186 ∧
  (((!(decide (((((groL z174).getD (z181).toNat [])).getD (z186).toNat 0) = (w64 (((w64 (1000 * z181)) + z186)))))) = true →
   (false, ()) = (true, ())) ∧
  ((!(decide (((((groL z174).getD (z181).toNat [])).getD (z186).toNat 0) = (w64 (((w64 (1000 * z181)) + z186)))))) = false →
  (cgI ((w64 (z186 + 1))) ∧
  ((decide (0 ≤ rwMu z174 z181 ((w64 (z186 + 1))))) = true ∧
  (decide (rwMu z174 z181 ((w64 (z186 + 1))) < rwMu z174 z181 z186)) = true))))))))))) ∧
 ((decide (z186 < (((z174.getD (z181).toNat [])).length : Int))) = false →
 (inB (groL z174) z181 ∧
 (inB (((groL z174).getD (z181).toNat [])) ((((z174.getD (z181).toNat [])).length : Int)) ∧
 (((!(decide (((((groL z174).getD (z181).toNat [])).getD ((((z174.getD (z181).toNat [])).length : Int)).toNat 0) = (w64 (((-2) * z181)))))) = true →
  (false, ()) = (true, ())) ∧
 ((!(decide (((((groL z174).getD (z181).toNat [])).getD ((((z174.getD (z181).toNat [])).length : Int)).toNat 0) = (w64 (((-2) * z181)))))) = false →
 (inB (groL z174) z181 ∧
 (inB (((groL z174).getD (z181).toNat [])) (((((z174.getD (z181).toNat [])).length : Int) + 1)) ∧
 (((!(decide (((((groL z174).getD (z181).toNat [])).getD (((((z174.getD (z181).toNat [])).length : Int) + 1)).toNat 0) = (w64 (((w64 (((-2) * z181))) - 1)))))) = true →
  (false, ()) = (true, ())) ∧
 ((!(decide (((((groL z174).getD (z181).toNat [])).getD (((((z174.getD (z181).toNat [])).length : Int) + 1)).toNat 0) = (w64 (((w64 (((-2) * z181))) - 1)))))) = false →
 (cgI ((w64 (z181 + 1))) ∧
 ((decide (0 ≤ ckMu z174 ((w64 (z181 + 1))))) = true ∧
 (decide (ckMu z174 ((w64 (z181 + 1))) < ckMu z174 z181)) = true))))))))))))))))))) ∧
((decide (z181 < (z174.length : Int))) = false →
(true, ()) = (true, ())))))))))))))))))))))))))))))))))))))))))))))))))))))))))))))))))))))))))))))))))))))))))))))))))))))))))))))))))))))))))))))))))))))))))))))))))))))))))))))))))))))))))))))))))))))))))))))))))))))))))))))))))))))))))))))))))))))))))))))))))))))))))))))))))))))))))))))))))
theorem r_SubMemory (x : HL C_SubMemory.args) : runs (env0 [(4, C_awake6.hid), (6, C_sMeet.hid), (7, C_sJoin.hid), (8, C_sHeart.hid), (9, C_sCosets.hid), (10, C_sClasses.hid), (11, C_sWithin.hid), (12, C_sNormal.hid), (13, C_r5Same.hid), (14, C_r6DocMeet.hid), (15, C_r6DocJoin.hid), (16, C_r6DocHeart.hid), (17, C_r6DocCosets.hid), (18, C_r6DocClasses.hid), (19, C_opOne), (20, C_cuts6.hid)] [(3, 24, { fix := [], vars := [(.wtmp 6, .list .op), (.tmp 136, .int .i64)], inv := fun y v => mmI v.1 v.2.1, mu := fun y v => mmMu v.1 v.2.1 }), (3, 29, { fix := [], vars := [(.wtmp 8, .list .op), (.tmp 147, .int .i64)], inv := fun y v => mmI v.1 v.2.1, mu := fun y v => mmMu v.1 v.2.1 }), (3, 46, { fix := [], vars := [(.itmp 210, .list .op), (.tmp 212, .int .i64)], inv := fun y v => mmI v.1 v.2.1, mu := fun y v => mmMu v.1 v.2.1 }), (3, 68, { fix := [], vars := [(.itmp 44, .lists .int), (.tmp 290, .int .i64)], inv := fun y v => mkO v.1 v.2.1, mu := fun y v => ckMu v.1 v.2.1 }), (3, 71, { fix := [(.tmp 46, .int .i64)], vars := [(.itmp 44, .lists .int), (.tmp 298, .int .i64)], inv := fun y v => mkN v.1 y.1 v.2.1, mu := fun y v => rwMu v.1 y.1 v.2.1 }), (3, 83, { fix := [(.tmp 44, .lists .int)], vars := [(.tmp 335, .int .i64)], inv := fun y v => cgI v.1, mu := fun y v => ckMu y.1 v.1 }), (3, 87, { fix := [(.tmp 44, .lists .int), (.tmp 50, .int .i64)], vars := [(.tmp 348, .int .i64)], inv := fun y v => cgI v.1, mu := fun y v => rwMu y.1 y.2.1 v.1 })] []) 200 3 C_SubMemory x = T_SubMemory x.1 x.2.1 := by kernel_rfl
theorem p_SubMemory (g : List Op3) (h : List Op3) (h0 : (Sh.list .op).okA g) (h1 : (Sh.list .op).okA h) (hp : rchO g ∧ rchO h) : T_SubMemory g h := by
  unfold T_SubMemory
  have hg : g.length * 96 ≤ 140737488351232 := hp.1
  have hh : h.length * 96 ≤ 140737488351232 := hp.2
  rw [spM g, spM h, spare_sub g, spare_sub h]
  refine ⟨trivial, fun z hz => ⟨fun q => absurd (hz ▸ q) (by decide), fun _ => ⟨sp1 hg _, trivial, sp3 _ _ _, sp4 _ _ _ _, sp5 _ _ _ _ _, sp6 _ _ _ _, sp1 hh _, trivial, sp3 _ _ _, sp4 _ _ _ _, sp5 _ _ _ _ _, sp6 _ _ _ _, trivial, fun m1 hm1 _ _ => ⟨trivial, fun j1 hj1 _ _ => ⟨trivial, fun e1 he1 _ _ => ⟨trivial, trivial, fun c1 hc1 _ _ => ⟨trivial, fun d1 hd1 _ _ => ⟨trivial, trivial, fun _ _ _ _ => ⟨trivial, fun _ _ _ _ => ⟨trivial, fun m2 hm2 _ _ => ⟨trivial, fun j2 hj2 _ _ => ⟨trivial, fun e2 he2 _ _ => ⟨trivial, trivial, fun c2 hc2 _ _ => ⟨trivial, fun d2 hd2 _ _ => ⟨trivial, trivial, fun _ _ _ _ => ⟨trivial, fun _ _ _ _ => ⟨sp1 hg _, trivial, sp3 _ _ _, sp4 _ _ _ _, sp5 _ _ _ _ _, sp6 _ _ _ _, sp1 hh _, trivial, sp3 _ _ _, sp4 _ _ _ _, sp5 _ _ _ _ _, sp6 _ _ _ _, trivial, fun x hx => ⟨fun q => absurd q (by rw [hx]; simp [smO]), fun _ => ⟨trivial, fun y hy => ⟨fun q => absurd q (by rw [hy]; simp [smO]), fun _ => ⟨mm_0 _, fun l i _ _ hI hL => ⟨fun hi => (fun u => ⟨u.1, u.2 _⟩) (mm_sp hg hI hL hi), fun _ => ⟨mm_0 _, fun l i _ _ hI hL => ⟨fun hi => (fun u => ⟨u.1, u.2 _⟩) (mm_sp hh hI hL hi), fun _ => ⟨trivial, fun wm dm _ _ => ⟨trivial, fun wj dj _ _ => ⟨trivial, fun we de _ _ => ⟨trivial, fun wc dc _ _ => ⟨trivial, fun wd dd _ _ => ⟨trivial, fun q => absurd q (smq_ne hm1 dm), fun _ => ⟨mm_0 _, fun l i _ _ hI hL => ⟨fun hi => (fun u => ⟨u.1, u.1, u.2 _⟩) (mm_next (by have := le_of hm1 (me192 g h); omega) hI hL (of_decide_eq_true hi)), fun _ => ⟨trivial, (mm_app (le_of hm1 (me192 g h)) hL).1, fun q => absurd q (mm_app (le_of hm1 (me192 g h)) hL).2, fun _ => ⟨trivial, fun q => absurd q (smq_ne hj1 dj), fun _ => ⟨trivial, fun q => absurd q (smq_ne he1 de), fun _ => ⟨trivial, fun q => absurd q (smq_ne hm2 dm), fun _ => ⟨trivial, fun q => absurd q (smq_ne hj2 dj), fun _ => ⟨trivial, fun q => absurd q (smq_ne he2 de), fun _ => ⟨trivial, fun q => absurd q (smq_ne hj1 dj), fun _ => ⟨mm_0 _, fun l i _ _ hI hL => ⟨fun hi => (fun u => ⟨u.1, u.1, u.2 _⟩) (mm_next (by have := le_of hj1 (jo192 g h); omega) hI hL (of_decide_eq_true hi)), fun _ => ⟨trivial, (mm_app (le_of hj1 (jo192 g h)) hL).1, fun q => absurd q (mm_app (le_of hj1 (jo192 g h)) hL).2, fun _ => ⟨trivial, fun q => absurd q (smq_ne he1 de), fun _ => ⟨trivial, fun q => absurd q (smq_ne hm2 dm), fun _ => ⟨trivial, fun q => absurd q (smq_ne hj2 dj), fun _ => ⟨trivial, fun q => absurd q (smq_ne he2 de), fun _ => ⟨trivial, fun q => absurd q (smq_ne he1 de), fun _ => ⟨mm_0 _, fun l i _ _ hI hL => ⟨fun hi => (fun u => ⟨u.1, u.1, u.2 _⟩) (mm_next (by have := le_of he1 (he192 g); omega) hI hL (of_decide_eq_true hi)), fun _ => ⟨trivial, (mm_app (le_of he1 (he192 g)) hL).1, fun q => absurd q (mm_app (le_of he1 (he192 g)) hL).2, fun _ => ⟨trivial, fun q => absurd q (smq_ne hm2 dm), fun _ => ⟨trivial, fun q => absurd q (smq_ne hj2 dj), fun _ => ⟨trivial, fun q => absurd q (smq_ne he2 de), fun _ => ⟨trivial, fun q => absurd q (smq_ne hm2 dm), fun _ => ⟨mm_0 _, fun l i _ _ hI hL => ⟨fun hi => (fun u => ⟨u.1, u.1, u.2 _⟩) (mm_next (by have := le_of hm2 (me192 g h); omega) hI hL (of_decide_eq_true hi)), fun _ => ⟨trivial, (mm_app (le_of hm2 (me192 g h)) hL).1, fun q => absurd q (mm_app (le_of hm2 (me192 g h)) hL).2, fun _ => ⟨trivial, fun q => absurd q (smq_ne hj2 dj), fun _ => ⟨trivial, fun q => absurd q (smq_ne he2 de), fun _ => ⟨trivial, fun q => absurd q (smq_ne hj2 dj), fun _ => ⟨mm_0 _, fun l i _ _ hI hL => ⟨fun hi => (fun u => ⟨u.1, u.1, u.2 _⟩) (mm_next (by have := le_of hj2 (jo192 g h); omega) hI hL (of_decide_eq_true hi)), fun _ => ⟨trivial, (mm_app (le_of hj2 (jo192 g h)) hL).1, fun q => absurd q (mm_app (le_of hj2 (jo192 g h)) hL).2, fun _ => ⟨trivial, fun q => absurd q (smq_ne he2 de), fun _ => ⟨trivial, fun q => absurd q (smq_ne he2 de), fun _ => ⟨mm_0 _, fun l i _ _ hI hL => ⟨fun hi => (fun u => ⟨u.1, u.1, u.2 _⟩) (mm_next (by have := le_of he2 (he192 g); omega) hI hL (of_decide_eq_true hi)), fun _ => ⟨trivial, (mm_app (le_of he2 (he192 g)) hL).1, fun q => absurd q (mm_app (le_of he2 (he192 g)) hL).2, fun _ => ⟨trivial, fun q => absurd q (sc_ne hc1 dc), fun _ => ⟨few_fit (few_app (few_nil0) (few_of hc1 (cs_few g h))) (by decide), trivial, fun q => absurd q (sc_ne hd1 dd), fun _ => ⟨few_fit (few_app (few_app (few_nil0) (few_of hc1 (cs_few g h))) (few_of hd1 (cl_few g))) (by decide), trivial, fun q => absurd q (sc_ne hc2 dc), fun _ => ⟨few_fit (few_app (few_app (few_app (few_nil0) (few_of hc1 (cs_few g h))) (few_of hd1 (cl_few g))) (few_of hc2 (cs_few g h))) (by decide), trivial, fun q => absurd q (sc_ne hd2 dd), fun _ => ⟨few_fit (few_app (few_app (few_app (few_app (few_nil0) (few_of hc1 (cs_few g h))) (few_of hd1 (cl_few g))) (few_of hc2 (cs_few g h))) (few_of hd2 (cl_few g))) (by decide), ?_⟩⟩⟩⟩⟩⟩⟩⟩⟩⟩⟩⟩⟩⟩⟩⟩⟩⟩⟩⟩⟩⟩⟩⟩⟩⟩⟩⟩⟩⟩⟩⟩⟩⟩⟩⟩⟩⟩⟩⟩⟩⟩⟩⟩⟩⟩⟩⟩⟩⟩⟩⟩⟩⟩⟩⟩⟩⟩⟩⟩⟩⟩⟩⟩⟩⟩⟩⟩⟩⟩⟩⟩⟩
  have F4 := few_app (few_app (few_app (few_app (few_nil0) (few_of hc1 (cs_few g h))) (few_of hd1 (cl_few g))) (few_of hc2 (cs_few g h))) (few_of hd2 (cl_few g))
  refine ⟨mk_0 _, fun l i _ _ hO hL => ⟨fun hi => ?_, fun hi => ?_⟩⟩
  · have hi := of_decide_eq_true hi
    have hll := (lensq_eq hL).1
    have hle := F4.1
    have hil : i < (l.length : Int) := by omega
    refine ⟨⟨hO.1, hil⟩, mk_in hO hil, fun l2 j _ _ hN hL2 => ⟨fun hj => ?_, fun hj => ?_⟩⟩
    · have hl2 := (lensq_eq hL2).1
      exact mk_next (n := 768) (by decide) (by omega) hN hL2 (by rw [(lensq_eq hL2).2, (lensq_eq hL).2]; exact few_row F4 _) (of_decide_eq_true hj)
    · have hl2 := (lensq_eq hL2).1
      exact mk_end (n := 768) (by decide) (by omega) hN hL2 (of_decide_eq_false hj)
  · have hi := of_decide_eq_false hi
    have hll := (lensq_eq hL).1
    have hle := F4.1
    have hil : ¬ i < (l.length : Int) := by omega
    have hR : ∀ k, (l.getD k []).length ≤ 192 := fun k => by rw [(lensq_eq hL).2]; exact few_row F4 k
    refine ⟨rfl, rfl, gro_fit F4 hL, Int.le_refl _, fun k _ _ hk0 => ⟨fun hk => ?_, fun _ => rfl⟩⟩
    have hk := of_decide_eq_true hk
    have k0 : 0 ≤ k := hk0
    obtain ⟨k1, k2⟩ := ck_next hk0 hk (by omega)
    have hRk := hR k.toNat
    have w1 : w64 (-2 * k) = -2 * k := w64_id (by omega) (by omega)
    have w2 : w64 (-2 * k - 1) = -2 * k - 1 := w64_id (by omega) (by omega)
    have w3 : w64 (1000 * k) = 1000 * k := w64_id (by omega) (by omega)
    refine ⟨⟨k0, hk⟩, ⟨k0, hk⟩, Int.le_refl _, fun m _ _ hm0 => ⟨fun hm => ?_, fun _ => ?_⟩⟩
    · have hm := of_decide_eq_true hm
      have m0 : 0 ≤ m := hm0
      obtain ⟨m1, m2⟩ := ck_next hm0 hm (by omega)
      have hv := mk_all hO hil k0 hk m0 hm
      obtain ⟨o1, o2⟩ := row_old (l.getD k.toNat []) (-2 * k) (-2 * k - 1) m0 hm
      have w4 : w64 (1000 * k + m) = 1000 * k + m := w64_id (by omega) (by omega)
      rw [gro_get k0 hk, w3, w4, o2, hv]
      refine ⟨⟨k0, hk⟩, ⟨m0, hm⟩, fun q => absurd q (by simp), fun _ => ⟨gro_in k0 hk, o1, fun q => absurd q (by simp), fun _ => ⟨m2, ?_, ?_⟩⟩⟩
      · rw [m1]; exact decide_eq_true (by unfold rwMu; omega)
      · rw [m1]; exact decide_eq_true (by unfold rwMu; omega)
    · obtain ⟨o1, o2, o3, o4⟩ := row_end (l.getD k.toNat []) (-2 * k) (-2 * k - 1)
      rw [gro_get k0 hk, w1, w2, o3, o4]
      refine ⟨gro_in k0 hk, o1, fun q => absurd q (by simp), fun _ => ⟨gro_in k0 hk, o2, fun q => absurd q (by simp), fun _ => ⟨k2, ?_, ?_⟩⟩⟩
      · rw [k1]; exact decide_eq_true (by unfold ckMu; omega)
      · rw [k1]; exact decide_eq_true (by unfold ckMu; omega)
theorem s_SubMemory : Sound Tryz.prog 3 C_SubMemory :=
  sound_of_eq (env0_ok (.cons s_awake6.hid (.cons s_sMeet.hid (.cons s_sJoin.hid (.cons s_sHeart.hid (.cons s_sCosets.hid (.cons s_sClasses.hid (.cons s_sWithin.hid (.cons s_sNormal.hid (.cons s_r5Same.hid (.cons s_r6DocMeet.hid (.cons s_r6DocJoin.hid (.cons s_r6DocHeart.hid (.cons s_r6DocCosets.hid (.cons s_r6DocClasses.hid (.cons s_opOne (.cons s_cuts6.hid (.nil)))))))))))))))))) (fun x => T_SubMemory x.1 x.2.1) r_SubMemory fun x ok hp => p_SubMemory x.1 x.2.1 ok.1 ok.2.1 hp
end Go.Fx
