/-
  Contracts: GroupProducts.
-/
import Derived.Test.YtjojlcakpoacjaaK21
import Derived.Test.YtjojlcakpoacjaaGh
namespace Go.Fx
open Go Go.Proofs
set_option maxRecDepth 100000
set_option linter.unusedVariables false
set_option linter.unusedSimpArgs false
set_option linter.unusedSectionVars false
noncomputable def C_GroupProducts : Contract := { args := [.list .op, .int .i64, .int .i64], res := [.bool], pre := fun _ => True, F := fun x => ((true : Bool), ()) }
def T_GroupProducts (l : List Op3) (i : Int) (j : Int) : Prop :=
  (True ∧
∀ z3 : Bool,
(z3 = true →
(((!z3) = true →
 (false, ()) = (true, ())) ∧
((!z3) = false →
(True ∧
∀ z6 : List Op3,
(z6 = l →
(True ∧
∀ z8 : List Op3,
(z8 = cloL z6 →
∀ z10 : Int,
(z10 = cloE z6 →
(((!(decide (z10 = 0))) = true →
 (true, ()) = (true, ())) ∧
((!(decide (z10 = 0))) = false →
(True ∧
∀ z13 : List (List Int),
(z13 = tabL z8 →
∀ z15 : Int,
(z15 = chkE z8 →
(True ∧
∀ z17 : List Int,
(z17 = invL z8 →
∀ z19 : Int,
(z19 = chkE z8 →
(((!(decide (z15 = 0))) = true →
 (false, ()) = (true, ())) ∧
((!(decide (z15 = 0))) = false →
(((!(decide (z19 = 0))) = true →
 (false, ()) = (true, ())) ∧
((!(decide (z19 = 0))) = false →
(((!(decide ((z13.length : Int) = (z8.length : Int)))) = true →
 (false, ()) = (true, ())) ∧
((!(decide ((z13.length : Int) = (z8.length : Int)))) = false →
(((!(decide ((z17.length : Int) = (z8.length : Int)))) = true →
 (false, ()) = (true, ())) ∧
((!(decide ((z17.length : Int) = (z8.length : Int)))) = false →
(((z8.length : Int) ≠ 0) ∧
(((z8.length : Int) ≠ 0) ∧
(((z8.length : Int) ≠ 0) ∧
(((z8.length : Int) ≠ 0) ∧
(inB z8 ((Int.tmod (((Int.tmod i (z8.length : Int)) + (z8.length : Int))) (z8.length : Int))) ∧
(inB z8 ((Int.tmod (((Int.tmod j (z8.length : Int)) + (z8.length : Int))) (z8.length : Int))) ∧
(True ∧
(inB z8 ((Int.tmod (((Int.tmod i (z8.length : Int)) + (z8.length : Int))) (z8.length : Int))) ∧
(True ∧
∀ z25 : Op3,
(z25 = selO (invE (((z8.getD ((Int.tmod (((Int.tmod i (z8.length : Int)) + (z8.length : Int))) (z8.length : Int))).toNat zerO)))) (invO (((z8.getD ((Int.tmod (((Int.tmod i (z8.length : Int)) + (z8.length : Int))) (z8.length : Int))).toNat zerO)))) →
∀ z27 : Int,
(z27 = invE (((z8.getD ((Int.tmod (((Int.tmod i (z8.length : Int)) + (z8.length : Int))) (z8.length : Int))).toNat zerO))) →
(((!(decide (mulE (((z8.getD ((Int.tmod (((Int.tmod i (z8.length : Int)) + (z8.length : Int))) (z8.length : Int))).toNat zerO))) (((z8.getD ((Int.tmod (((Int.tmod j (z8.length : Int)) + (z8.length : Int))) (z8.length : Int))).toNat zerO))) = 0))) = true →
 (false, ()) = (true, ())) ∧
((!(decide (mulE (((z8.getD ((Int.tmod (((Int.tmod i (z8.length : Int)) + (z8.length : Int))) (z8.length : Int))).toNat zerO))) (((z8.getD ((Int.tmod (((Int.tmod j (z8.length : Int)) + (z8.length : Int))) (z8.length : Int))).toNat zerO))) = 0))) = false →
(((!(decide (z27 = 0))) = true →
 (false, ()) = (true, ())) ∧
((!(decide (z27 = 0))) = false →
(inB z13 ((Int.tmod (((Int.tmod i (z8.length : Int)) + (z8.length : Int))) (z8.length : Int))) ∧
(((!(decide ((((z13.getD ((Int.tmod (((Int.tmod i (z8.length : Int)) + (z8.length : Int))) (z8.length : Int))).toNat [])).length : Int) = (z8.length : Int)))) = true →
 (false, ()) = (true, ())) ∧
((!(decide ((((z13.getD ((Int.tmod (((Int.tmod i (z8.length : Int)) + (z8.length : Int))) (z8.length : Int))).toNat [])).length : Int) = (z8.length : Int)))) = false →
(inB z13 ((Int.tmod (((Int.tmod i (z8.length : Int)) + (z8.length : Int))) (z8.length : Int))) ∧
(inB ((z13.getD ((Int.tmod (((Int.tmod i (z8.length : Int)) + (z8.length : Int))) (z8.length : Int))).toNat [])) ((Int.tmod (((Int.tmod j (z8.length : Int)) + (z8.length : Int))) (z8.length : Int))) ∧
(((decide ((((z13.getD ((Int.tmod (((Int.tmod i (z8.length : Int)) + (z8.length : Int))) (z8.length : Int))).toNat [])).getD ((Int.tmod (((Int.tmod j (z8.length : Int)) + (z8.length : Int))) (z8.length : Int))).toNat 0) < 0)) = true →
 (false, ()) = (true, ())) ∧
((decide ((((z13.getD ((Int.tmod (((Int.tmod i (z8.length : Int)) + (z8.length : Int))) (z8.length : Int))).toNat [])).getD ((Int.tmod (((Int.tmod j (z8.length : Int)) + (z8.length : Int))) (z8.length : Int))).toNat 0) < 0)) = false →
(inB z13 ((Int.tmod (((Int.tmod i (z8.length : Int)) + (z8.length : Int))) (z8.length : Int))) ∧
(inB ((z13.getD ((Int.tmod (((Int.tmod i (z8.length : Int)) + (z8.length : Int))) (z8.length : Int))).toNat [])) ((Int.tmod (((Int.tmod j (z8.length : Int)) + (z8.length : Int))) (z8.length : Int))) ∧
(((decide ((z8.length : Int) ≤ (((z13.getD ((Int.tmod (((Int.tmod i (z8.length : Int)) + (z8.length : Int))) (z8.length : Int))).toNat [])).getD ((Int.tmod (((Int.tmod j (z8.length : Int)) + (z8.length : Int))) (z8.length : Int))).toNat 0))) = true →
 (false, ()) = (true, ())) ∧
((decide ((z8.length : Int) ≤ (((z13.getD ((Int.tmod (((Int.tmod i (z8.length : Int)) + (z8.length : Int))) (z8.length : Int))).toNat [])).getD ((Int.tmod (((Int.tmod j (z8.length : Int)) + (z8.length : Int))) (z8.length : Int))).toNat 0))) = false →
(inB z13 ((Int.tmod (((Int.tmod i (z8.length : Int)) + (z8.length : Int))) (z8.length : Int))) ∧
(inB ((z13.getD ((Int.tmod (((Int.tmod i (z8.length : Int)) + (z8.length : Int))) (z8.length : Int))).toNat [])) ((Int.tmod (((Int.tmod j (z8.length : Int)) + (z8.length : Int))) (z8.length : Int))) ∧
(inB z8 ((((z13.getD ((Int.tmod (((Int.tmod i (z8.length : Int)) + (z8.length : Int))) (z8.length : Int))).toNat [])).getD ((Int.tmod (((Int.tmod j (z8.length : Int)) + (z8.length : Int))) (z8.length : Int))).toNat 0)) ∧
(((!((decide ((((z8.getD ((((z13.getD ((Int.tmod (((Int.tmod i (z8.length : Int)) + (z8.length : Int))) (z8.length : Int))).toNat [])).getD ((Int.tmod (((Int.tmod j (z8.length : Int)) + (z8.length : Int))) (z8.length : Int))).toNat 0)).toNat zerO)).R).xx = ((selO (mulE (((z8.getD ((Int.tmod (((Int.tmod i (z8.length : Int)) + (z8.length : Int))) (z8.length : Int))).toNat zerO))) (((z8.getD ((Int.tmod (((Int.tmod j (z8.length : Int)) + (z8.length : Int))) (z8.length : Int))).toNat zerO)))) (mulO (((z8.getD ((Int.tmod (((Int.tmod i (z8.length : Int)) + (z8.length : Int))) (z8.length : Int))).toNat zerO))) (((z8.getD ((Int.tmod (((Int.tmod j (z8.length : Int)) + (z8.length : Int))) (z8.length : Int))).toNat zerO))))).R).xx)) && ((decide ((((z8.getD ((((z13.getD ((Int.tmod (((Int.tmod i (z8.length : Int)) + (z8.length : Int))) (z8.length : Int))).toNat [])).getD ((Int.tmod (((Int.tmod j (z8.length : Int)) + (z8.length : Int))) (z8.length : Int))).toNat 0)).toNat zerO)).R).xy = ((selO (mulE (((z8.getD ((Int.tmod (((Int.tmod i (z8.length : Int)) + (z8.length : Int))) (z8.length : Int))).toNat zerO))) (((z8.getD ((Int.tmod (((Int.tmod j (z8.length : Int)) + (z8.length : Int))) (z8.length : Int))).toNat zerO)))) (mulO (((z8.getD ((Int.tmod (((Int.tmod i (z8.length : Int)) + (z8.length : Int))) (z8.length : Int))).toNat zerO))) (((z8.getD ((Int.tmod (((Int.tmod j (z8.length : Int)) + (z8.length : Int))) (z8.length : Int))).toNat zerO))))).R).xy)) && ((decide ((((z8.getD ((((z13.getD ((Int.tmod (((Int.tmod i (z8.length : Int)) + (z8.length : Int))) (z8.length : Int))).toNat [])).getD ((Int.tmod (((Int.tmod j (z8.length : Int)) + (z8.length : Int))) (z8.length : Int))).toNat 0)).toNat zerO)).R).xz = ((selO (mulE (((z8.getD ((Int.tmod (((Int.tmod i (z8.length : Int)) + (z8.length : Int))) (z8.length : Int))).toNat zerO))) (((z8.getD ((Int.tmod (((Int.tmod j (z8.length : Int)) + (z8.length : Int))) (z8.length : Int))).toNat zerO)))) (mulO (((z8.getD ((Int.tmod (((Int.tmod i (z8.length : Int)) + (z8.length : Int))) (z8.length : Int))).toNat zerO))) (((z8.getD ((Int.tmod (((Int.tmod j (z8.length : Int)) + (z8.length : Int))) (z8.length : Int))).toNat zerO))))).R).xz)) && ((decide ((((z8.getD ((((z13.getD ((Int.tmod (((Int.tmod i (z8.length : Int)) + (z8.length : Int))) (z8.length : Int))).toNat [])).getD ((Int.tmod (((Int.tmod j (z8.length : Int)) + (z8.length : Int))) (z8.length : Int))).toNat 0)).toNat zerO)).R).yx = ((selO (mulE (((z8.getD ((Int.tmod (((Int.tmod i (z8.length : Int)) + (z8.length : Int))) (z8.length : Int))).toNat zerO))) (((z8.getD ((Int.tmod (((Int.tmod j (z8.length : Int)) + (z8.length : Int))) (z8.length : Int))).toNat zerO)))) (mulO (((z8.getD ((Int.tmod (((Int.tmod i (z8.length : Int)) + (z8.length : Int))) (z8.length : Int))).toNat zerO))) (((z8.getD ((Int.tmod (((Int.tmod j (z8.length : Int)) + (z8.length : Int))) (z8.length : Int))).toNat zerO))))).R).yx)) && ((decide ((((z8.getD ((((z13.getD ((Int.tmod (((Int.tmod i (z8.length : Int)) + (z8.length : Int))) (z8.length : Int))).toNat [])).getD ((Int.tmod (((Int.tmod j (z8.length : Int)) + (z8.length : Int))) (z8.length : Int))).toNat 0)).toNat zerO)).R).yy = ((selO (mulE (((z8.getD ((Int.tmod (((Int.tmod i (z8.length : Int)) + (z8.length : Int))) (z8.length : Int))).toNat zerO))) (((z8.getD ((Int.tmod (((Int.tmod j (z8.length : Int)) + (z8.length : Int))) (z8.length : Int))).toNat zerO)))) (mulO (((z8.getD ((Int.tmod (((Int.tmod i (z8.length : Int)) + (z8.length : Int))) (z8.length : Int))).toNat zerO))) (((z8.getD ((Int.tmod (((Int.tmod j (z8.length : Int)) + (z8.length : Int))) (z8.length : Int))).toNat zerO))))).R).yy)) && ((decide ((((z8.getD ((((z13.getD ((Int.tmod (((Int.tmod i (z8.length : Int)) + (z8.length : Int))) (z8.length : Int))).toNat [])).getD ((Int.tmod (((Int.tmod j (z8.length : Int)) + (z8.length : Int))) (z8.length : Int))).toNat 0)).toNat zerO)).R).yz = ((selO (mulE (((z8.getD ((Int.tmod (((Int.tmod i (z8.length : Int)) + (z8.length : Int))) (z8.length : Int))).toNat zerO))) (((z8.getD ((Int.tmod (((Int.tmod j (z8.length : Int)) + (z8.length : Int))) (z8.length : Int))).toNat zerO)))) (mulO (((z8.getD ((Int.tmod (((Int.tmod i (z8.length : Int)) + (z8.length : Int))) (z8.length : Int))).toNat zerO))) (((z8.getD ((Int.tmod (((Int.tmod j (z8.length : Int)) + (z8.length : Int))) (z8.length : Int))).toNat zerO))))).R).yz)) && ((decide ((((z8.getD ((((z13.getD ((Int.tmod (((Int.tmod i (z8.length : Int)) + (z8.length : Int))) (z8.length : Int))).toNat [])).getD ((Int.tmod (((Int.tmod j (z8.length : Int)) + (z8.length : Int))) (z8.length : Int))).toNat 0)).toNat zerO)).R).zx = ((selO (mulE (((z8.getD ((Int.tmod (((Int.tmod i (z8.length : Int)) + (z8.length : Int))) (z8.length : Int))).toNat zerO))) (((z8.getD ((Int.tmod (((Int.tmod j (z8.length : Int)) + (z8.length : Int))) (z8.length : Int))).toNat zerO)))) (mulO (((z8.getD ((Int.tmod (((Int.tmod i (z8.length : Int)) + (z8.length : Int))) (z8.length : Int))).toNat zerO))) (((z8.getD ((Int.tmod (((Int.tmod j (z8.length : Int)) + (z8.length : Int))) (z8.length : Int))).toNat zerO))))).R).zx)) && ((decide ((((z8.getD ((((z13.getD ((Int.tmod (((Int.tmod i (z8.length : Int)) + (z8.length : Int))) (z8.length : Int))).toNat [])).getD ((Int.tmod (((Int.tmod j (z8.length : Int)) + (z8.length : Int))) (z8.length : Int))).toNat 0)).toNat zerO)).R).zy = ((selO (mulE (((z8.getD ((Int.tmod (((Int.tmod i (z8.length : Int)) + (z8.length : Int))) (z8.length : Int))).toNat zerO))) (((z8.getD ((Int.tmod (((Int.tmod j (z8.length : Int)) + (z8.length : Int))) (z8.length : Int))).toNat zerO)))) (mulO (((z8.getD ((Int.tmod (((Int.tmod i (z8.length : Int)) + (z8.length : Int))) (z8.length : Int))).toNat zerO))) (((z8.getD ((Int.tmod (((Int.tmod j (z8.length : Int)) + (z8.length : Int))) (z8.length : Int))).toNat zerO))))).R).zy)) && ((decide ((((z8.getD ((((z13.getD ((Int.tmod (((Int.tmod i (z8.length : Int)) + (z8.length : Int))) (z8.length : Int))).toNat [])).getD ((Int.tmod (((Int.tmod j (z8.length : Int)) + (z8.length : Int))) (z8.length : Int))).toNat 0)).toNat zerO)).R).zz = ((selO (mulE (((z8.getD ((Int.tmod (((Int.tmod i (z8.length : Int)) + (z8.length : Int))) (z8.length : Int))).toNat zerO))) (((z8.getD ((Int.tmod (((Int.tmod j (z8.length : Int)) + (z8.length : Int))) (z8.length : Int))).toNat zerO)))) (mulO (((z8.getD ((Int.tmod (((Int.tmod i (z8.length : Int)) + (z8.length : Int))) (z8.length : Int))).toNat zerO))) (((z8.getD ((Int.tmod (((Int.tmod j (z8.length : Int)) + (z8.length : Int))) (z8.length : Int))).toNat zerO))))).R).zz)) && ((decide ((((z8.getD ((((z13.getD ((Int.tmod (((Int.tmod i (z8.length : Int)) + (z8.length : Int))) (z8.length : Int))).toNat [])).getD ((Int.tmod (((Int.tmod j (z8.length : Int)) + (z8.length : Int))) (z8.length : Int))).toNat 0)).toNat zerO)).T).x = ((selO (mulE (((z8.getD ((Int.tmod (((Int.tmod i (z8.length : Int)) + (z8.length : Int))) (z8.length : Int))).toNat zerO))) (((z8.getD ((Int.tmod (((Int.tmod j (z8.length : Int)) + (z8.length : Int))) (z8.length : Int))).toNat zerO)))) (mulO (((z8.getD ((Int.tmod (((Int.tmod i (z8.length : Int)) + (z8.length : Int))) (z8.length : Int))).toNat zerO))) (((z8.getD ((Int.tmod (((Int.tmod j (z8.length : Int)) + (z8.length : Int))) (z8.length : Int))).toNat zerO))))).T).x)) && ((decide ((((z8.getD ((((z13.getD ((Int.tmod (((Int.tmod i (z8.length : Int)) + (z8.length : Int))) (z8.length : Int))).toNat [])).getD ((Int.tmod (((Int.tmod j (z8.length : Int)) + (z8.length : Int))) (z8.length : Int))).toNat 0)).toNat zerO)).T).y = ((selO (mulE (((z8.getD ((Int.tmod (((Int.tmod i (z8.length : Int)) + (z8.length : Int))) (z8.length : Int))).toNat zerO))) (((z8.getD ((Int.tmod (((Int.tmod j (z8.length : Int)) + (z8.length : Int))) (z8.length : Int))).toNat zerO)))) (mulO (((z8.getD ((Int.tmod (((Int.tmod i (z8.length : Int)) + (z8.length : Int))) (z8.length : Int))).toNat zerO))) (((z8.getD ((Int.tmod (((Int.tmod j (z8.length : Int)) + (z8.length : Int))) (z8.length : Int))).toNat zerO))))).T).y)) && ((decide ((((z8.getD ((((z13.getD ((Int.tmod (((Int.tmod i (z8.length : Int)) + (z8.length : Int))) (z8.length : Int))).toNat [])).getD ((Int.tmod (((Int.tmod j (z8.length : Int)) + (z8.length : Int))) (z8.length : Int))).toNat 0)).toNat zerO)).T).z = ((selO (mulE (((z8.getD ((Int.tmod (((Int.tmod i (z8.length : Int)) + (z8.length : Int))) (z8.length : Int))).toNat zerO))) (((z8.getD ((Int.tmod (((Int.tmod j (z8.length : Int)) + (z8.length : Int))) (z8.length : Int))).toNat zerO)))) (mulO (((z8.getD ((Int.tmod (((Int.tmod i (z8.length : Int)) + (z8.length : Int))) (z8.length : Int))).toNat zerO))) (((z8.getD ((Int.tmod (((Int.tmod j (z8.length : Int)) + (z8.length : Int))) (z8.length : Int))).toNat zerO))))).T).z)) && true))))))))))))) = true →
 (false, ()) = (true, ())) ∧
((!((decide ((((z8.getD ((((z13.getD ((Int.tmod (((Int.tmod i (z8.length : Int)) + (z8.length : Int))) (z8.length : Int))).toNat [])).getD ((Int.tmod (((Int.tmod j (z8.length : Int)) + (z8.length : Int))) (z8.length : Int))).toNat 0)).toNat zerO)).R).xx = ((selO (mulE (((z8.getD ((Int.tmod (((Int.tmod i (z8.length : Int)) + (z8.length : Int))) (z8.length : Int))).toNat zerO))) (((z8.getD ((Int.tmod (((Int.tmod j (z8.length : Int)) + (z8.length : Int))) (z8.length : Int))).toNat zerO)))) (mulO (((z8.getD ((Int.tmod (((Int.tmod i (z8.length : Int)) + (z8.length : Int))) (z8.length : Int))).toNat zerO))) (((z8.getD ((Int.tmod (((Int.tmod j (z8.length : Int)) + (z8.length : Int))) (z8.length : Int))).toNat zerO))))).R).xx)) && ((decide ((((z8.getD ((((z13.getD ((Int.tmod (((Int.tmod i (z8.length : Int)) + (z8.length : Int))) (z8.length : Int))).toNat [])).getD ((Int.tmod (((Int.tmod j (z8.length : Int)) + (z8.length : Int))) (z8.length : Int))).toNat 0)).toNat zerO)).R).xy = ((selO (mulE (((z8.getD ((Int.tmod (((Int.tmod i (z8.length : Int)) + (z8.length : Int))) (z8.length : Int))).toNat zerO))) (((z8.getD ((Int.tmod (((Int.tmod j (z8.length : Int)) + (z8.length : Int))) (z8.length : Int))).toNat zerO)))) (mulO (((z8.getD ((Int.tmod (((Int.tmod i (z8.length : Int)) + (z8.length : Int))) (z8.length : Int))).toNat zerO))) (((z8.getD ((Int.tmod (((Int.tmod j (z8.length : Int)) + (z8.length : Int))) (z8.length : Int))).toNat zerO))))).R).xy)) && ((decide ((((z8.getD ((((z13.getD ((Int.tmod (((Int.tmod i (z8.length : Int)) + (z8.length : Int))) (z8.length : Int))).toNat [])).getD ((Int.tmod (((Int.tmod j (z8.length : Int)) + (z8.length : Int))) (z8.length : Int))).toNat 0)).toNat zerO)).R).xz = ((selO (mulE (((z8.getD ((Int.tmod (((Int.tmod i (z8.length : Int)) + (z8.length : Int))) (z8.length : Int))).toNat zerO))) (((z8.getD ((Int.tmod (((Int.tmod j (z8.length : Int)) + (z8.length : Int))) (z8.length : Int))).toNat zerO)))) (mulO (((z8.getD ((Int.tmod (((Int.tmod i (z8.length : Int)) + (z8.length : Int))) (z8.length : Int))).toNat zerO))) (((z8.getD ((Int.tmod (((Int.tmod j (z8.length : Int)) + (z8.length : Int))) (z8.length : Int))).toNat zerO))))).R).xz)) && ((decide ((((z8.getD ((((z13.getD ((Int.tmod (((Int.tmod i (z8.length : Int)) + (z8.length : Int))) (z8.length : Int))).toNat [])).getD ((Int.tmod (((Int.tmod j (z8.length : Int)) + (z8.length : Int))) (z8.length : Int))).toNat 0)).toNat zerO)).R).yx = ((selO (mulE (((z8.getD ((Int.tmod (((Int.tmod i (z8.length : Int)) + (z8.length : Int))) (z8.length : Int))).toNat zerO))) (((z8.getD ((Int.tmod (((Int.tmod j (z8.length : Int)) + (z8.length : Int))) (z8.length : Int))).toNat zerO)))) (mulO (((z8.getD ((Int.tmod (((Int.tmod i (z8.length : Int)) + (z8.length : Int))) (z8.length : Int))).toNat zerO))) (((z8.getD ((Int.tmod (((Int.tmod j (z8.length : Int)) + (z8.length : Int))) (z8.length : Int))).toNat zerO))))).R).yx)) && ((decide ((((z8.getD ((((z13.getD ((Int.tmod (((Int.tmod i (z8.length : Int)) + (z8.length : Int))) (z8.length : Int))).toNat [])).getD ((Int.tmod (((Int.tmod j (z8.length : Int)) + (z8.length : Int))) (z8.length : Int))).toNat 0)).toNat zerO)).R).yy = ((selO (mulE (((z8.getD ((Int.tmod (((Int.tmod i (z8.length : Int)) + (z8.length : Int))) (z8.length : Int))).toNat zerO))) (((z8.getD ((Int.tmod (((Int.tmod j (z8.length : Int)) + (z8.length : Int))) (z8.length : Int))).toNat zerO)))) (mulO (((z8.getD ((Int.tmod (((Int.tmod i (z8.length : Int)) + (z8.length : Int))) (z8.length : Int))).toNat zerO))) (((z8.getD ((Int.tmod (((Int.tmod j (z8.length : Int)) + (z8.length : Int))) (z8.length : Int))).toNat zerO))))).R).yy)) && ((decide ((((z8.getD ((((z13.getD ((Int.tmod (((Int.tmod i (z8.length : Int)) + (z8.length : Int))) (z8.length : Int))).toNat [])).getD ((Int.tmod (((Int.tmod j (z8.length : Int)) + (z8.length : Int))) (z8.length : Int))).toNat 0)).toNat zerO)).R).yz = ((selO (mulE (((z8.getD ((Int.tmod (((Int.tmod i (z8.length : Int)) + (z8.length : Int))) (z8.length : Int))).toNat zerO))) (((z8.getD ((Int.tmod (((Int.tmod j (z8.length : Int)) + (z8.length : Int))) (z8.length : Int))).toNat zerO)))) (mulO (((z8.getD ((Int.tmod (((Int.tmod i (z8.length : Int)) + (z8.length : Int))) (z8.length : Int))).toNat zerO))) (((z8.getD ((Int.tmod (((Int.tmod j (z8.length : Int)) + (z8.length : Int))) (z8.length : Int))).toNat zerO))))).R).yz)) && ((decide ((((z8.getD ((((z13.getD ((Int.tmod (((Int.tmod i (z8.length : Int)) + (z8.length : Int))) (z8.length : Int))).toNat [])).getD ((Int.tmod (((Int.tmod j (z8.length : Int)) + (z8.length : Int))) (z8.length : Int))).toNat 0)).toNat zerO)).R).zx = ((selO (mulE (((z8.getD ((Int.tmod (((Int.tmod i (z8.length : Int)) + (z8.length : Int))) (z8.length : Int))).toNat zerO))) (((z8.getD ((Int.tmod (((Int.tmod j (z8.length : Int)) + (z8.length : Int))) (z8.length : Int))).toNat zerO)))) (mulO (((z8.getD ((Int.tmod (((Int.tmod i (z8.length : Int)) + (z8.length : Int))) (z8.length : Int))).toNat zerO))) (((z8.getD ((Int.tmod (((Int.tmod j (z8.length : Int)) + (z8.length : Int))) (z8.length : Int))).toNat zerO))))).R).zx)) && ((decide ((((z8.getD ((((z13.getD ((Int.tmod (((Int.tmod i (z8.length : Int)) + (z8.length : Int))) (z8.length : Int))).toNat [])).getD ((Int.tmod (((Int.tmod j (z8.length : Int)) + (z8.length : Int))) (z8.length : Int))).toNat 0)).toNat zerO)).R).zy = ((selO (mulE (((z8.getD ((Int.tmod (((Int.tmod i (z8.length : Int)) + (z8.length : Int))) (z8.length : Int))).toNat zerO))) (((z8.getD ((Int.tmod (((Int.tmod j (z8.length : Int)) + (z8.length : Int))) (z8.length : Int))).toNat zerO)))) (mulO (((z8.getD ((Int.tmod (((Int.tmod i (z8.length : Int)) + (z8.length : Int))) (z8.length : Int))).toNat zerO))) (((z8.getD ((Int.tmod (((Int.tmod j (z8.length : Int)) + (z8.length : Int))) (z8.length : Int))).toNat zerO))))).R).zy)) && ((decide ((((z8.getD ((((z13.getD ((Int.tmod (((Int.tmod i (z8.length : Int)) + (z8.length : Int))) (z8.length : Int))).toNat [])).getD ((Int.tmod (((Int.tmod j (z8.length : Int)) + (z8.length : Int))) (z8.length : Int))).toNat 0)).toNat zerO)).R).zz = ((selO (mulE (((z8.getD ((Int.tmod (((Int.tmod i (z8.length : Int)) + (z8.length : Int))) (z8.length : Int))).toNat zerO))) (((z8.getD ((Int.tmod (((Int.tmod j (z8.length : Int)) + (z8.length : Int))) (z8.length : Int))).toNat zerO)))) (mulO (((z8.getD ((Int.tmod (((Int.tmod i (z8.length : Int)) + (z8.length : Int))) (z8.length : Int))).toNat zerO))) (((z8.getD ((Int.tmod (((Int.tmod j (z8.length : Int)) + (z8.length : Int))) (z8.length : Int))).toNat zerO))))).R).zz)) && ((decide ((((z8.getD ((((z13.getD ((Int.tmod (((Int.tmod i (z8.length : Int)) + (z8.length : Int))) (z8.length : Int))).toNat [])).getD ((Int.tmod (((Int.tmod j (z8.length : Int)) + (z8.length : Int))) (z8.length : Int))).toNat 0)).toNat zerO)).T).x = ((selO (mulE (((z8.getD ((Int.tmod (((Int.tmod i (z8.length : Int)) + (z8.length : Int))) (z8.length : Int))).toNat zerO))) (((z8.getD ((Int.tmod (((Int.tmod j (z8.length : Int)) + (z8.length : Int))) (z8.length : Int))).toNat zerO)))) (mulO (((z8.getD ((Int.tmod (((Int.tmod i (z8.length : Int)) + (z8.length : Int))) (z8.length : Int))).toNat zerO))) (((z8.getD ((Int.tmod (((Int.tmod j (z8.length : Int)) + (z8.length : Int))) (z8.length : Int))).toNat zerO))))).T).x)) && ((decide ((((z8.getD ((((z13.getD ((Int.tmod (((Int.tmod i (z8.length : Int)) + (z8.length : Int))) (z8.length : Int))).toNat [])).getD ((Int.tmod (((Int.tmod j (z8.length : Int)) + (z8.length : Int))) (z8.length : Int))).toNat 0)).toNat zerO)).T).y = ((selO (mulE (((z8.getD ((Int.tmod (((Int.tmod i (z8.length : Int)) + (z8.length : Int))) (z8.length : Int))).toNat zerO))) (((z8.getD ((Int.tmod (((Int.tmod j (z8.length : Int)) + (z8.length : Int))) (z8.length : Int))).toNat zerO)))) (mulO (((z8.getD ((Int.tmod (((Int.tmod i (z8.length : Int)) + (z8.length : Int))) (z8.length : Int))).toNat zerO))) (((z8.getD ((Int.tmod (((Int.tmod j (z8.length : Int)) + (z8.length : Int))) (z8.length : Int))).toNat zerO))))).T).y)) && ((decide ((((z8.getD ((((z13.getD ((Int.tmod (((Int.tmod i (z8.length : Int)) + (z8.length : Int))) (z8.length : Int))).toNat [])).getD ((Int.tmod (((Int.tmod j (z8.length : Int)) + (z8.length : Int))) (z8.length : Int))).toNat 0)).toNat zerO)).T).z = ((selO (mulE (((z8.getD ((Int.tmod (((Int.tmod i (z8.length : Int)) + (z8.length : Int))) (z8.length : Int))).toNat zerO))) (((z8.getD ((Int.tmod (((Int.tmod j (z8.length : Int)) + (z8.length : Int))) (z8.length : Int))).toNat zerO)))) (mulO (((z8.getD ((Int.tmod (((Int.tmod i (z8.length : Int)) + (z8.length : Int))) (z8.length : Int))).toNat zerO))) (((z8.getD ((Int.tmod (((Int.tmod j (z8.length : Int)) + (z8.length : Int))) (z8.length : Int))).toNat zerO))))).T).z)) && true))))))))))))) = false →
(inB z17 ((Int.tmod (((Int.tmod i (z8.length : Int)) + (z8.length : Int))) (z8.length : Int))) ∧
(((decide ((z17.getD ((Int.tmod (((Int.tmod i (z8.length : Int)) + (z8.length : Int))) (z8.length : Int))).toNat 0) < 0)) = true →
 (false, ()) = (true, ())) ∧
((decide ((z17.getD ((Int.tmod (((Int.tmod i (z8.length : Int)) + (z8.length : Int))) (z8.length : Int))).toNat 0) < 0)) = false →
(inB z17 ((Int.tmod (((Int.tmod i (z8.length : Int)) + (z8.length : Int))) (z8.length : Int))) ∧
(((decide ((z8.length : Int) ≤ (z17.getD ((Int.tmod (((Int.tmod i (z8.length : Int)) + (z8.length : Int))) (z8.length : Int))).toNat 0))) = true →
 (false, ()) = (true, ())) ∧
((decide ((z8.length : Int) ≤ (z17.getD ((Int.tmod (((Int.tmod i (z8.length : Int)) + (z8.length : Int))) (z8.length : Int))).toNat 0))) = false →
(inB z17 ((Int.tmod (((Int.tmod i (z8.length : Int)) + (z8.length : Int))) (z8.length : Int))) ∧
(inB z8 ((z17.getD ((Int.tmod (((Int.tmod i (z8.length : Int)) + (z8.length : Int))) (z8.length : Int))).toNat 0)) ∧
(((!((decide ((((z8.getD ((z17.getD ((Int.tmod (((Int.tmod i (z8.length : Int)) + (z8.length : Int))) (z8.length : Int))).toNat 0)).toNat zerO)).R).xx = z25.R.xx)) && ((decide ((((z8.getD ((z17.getD ((Int.tmod (((Int.tmod i (z8.length : Int)) + (z8.length : Int))) (z8.length : Int))).toNat 0)).toNat zerO)).R).xy = z25.R.xy)) && ((decide ((((z8.getD ((z17.getD ((Int.tmod (((Int.tmod i (z8.length : Int)) + (z8.length : Int))) (z8.length : Int))).toNat 0)).toNat zerO)).R).xz = z25.R.xz)) && ((decide ((((z8.getD ((z17.getD ((Int.tmod (((Int.tmod i (z8.length : Int)) + (z8.length : Int))) (z8.length : Int))).toNat 0)).toNat zerO)).R).yx = z25.R.yx)) && ((decide ((((z8.getD ((z17.getD ((Int.tmod (((Int.tmod i (z8.length : Int)) + (z8.length : Int))) (z8.length : Int))).toNat 0)).toNat zerO)).R).yy = z25.R.yy)) && ((decide ((((z8.getD ((z17.getD ((Int.tmod (((Int.tmod i (z8.length : Int)) + (z8.length : Int))) (z8.length : Int))).toNat 0)).toNat zerO)).R).yz = z25.R.yz)) && ((decide ((((z8.getD ((z17.getD ((Int.tmod (((Int.tmod i (z8.length : Int)) + (z8.length : Int))) (z8.length : Int))).toNat 0)).toNat zerO)).R).zx = z25.R.zx)) && ((decide ((((z8.getD ((z17.getD ((Int.tmod (((Int.tmod i (z8.length : Int)) + (z8.length : Int))) (z8.length : Int))).toNat 0)).toNat zerO)).R).zy = z25.R.zy)) && ((decide ((((z8.getD ((z17.getD ((Int.tmod (((Int.tmod i (z8.length : Int)) + (z8.length : Int))) (z8.length : Int))).toNat 0)).toNat zerO)).R).zz = z25.R.zz)) && ((decide ((((z8.getD ((z17.getD ((Int.tmod (((Int.tmod i (z8.length : Int)) + (z8.length : Int))) (z8.length : Int))).toNat 0)).toNat zerO)).T).x = z25.T.x)) && ((decide ((((z8.getD ((z17.getD ((Int.tmod (((Int.tmod i (z8.length : Int)) + (z8.length : Int))) (z8.length : Int))).toNat 0)).toNat zerO)).T).y = z25.T.y)) && ((decide ((((z8.getD ((z17.getD ((Int.tmod (((Int.tmod i (z8.length : Int)) + (z8.length : Int))) (z8.length : Int))).toNat 0)).toNat zerO)).T).z = z25.T.z)) && true))))))))))))) = true →
 (false, ()) = (true, ())) ∧
((!((decide ((((z8.getD ((z17.getD ((Int.tmod (((Int.tmod i (z8.length : Int)) + (z8.length : Int))) (z8.length : Int))).toNat 0)).toNat zerO)).R).xx = z25.R.xx)) && ((decide ((((z8.getD ((z17.getD ((Int.tmod (((Int.tmod i (z8.length : Int)) + (z8.length : Int))) (z8.length : Int))).toNat 0)).toNat zerO)).R).xy = z25.R.xy)) && ((decide ((((z8.getD ((z17.getD ((Int.tmod (((Int.tmod i (z8.length : Int)) + (z8.length : Int))) (z8.length : Int))).toNat 0)).toNat zerO)).R).xz = z25.R.xz)) && ((decide ((((z8.getD ((z17.getD ((Int.tmod (((Int.tmod i (z8.length : Int)) + (z8.length : Int))) (z8.length : Int))).toNat 0)).toNat zerO)).R).yx = z25.R.yx)) && ((decide ((((z8.getD ((z17.getD ((Int.tmod (((Int.tmod i (z8.length : Int)) + (z8.length : Int))) (z8.length : Int))).toNat 0)).toNat zerO)).R).yy = z25.R.yy)) && ((decide ((((z8.getD ((z17.getD ((Int.tmod (((Int.tmod i (z8.length : Int)) + (z8.length : Int))) (z8.length : Int))).toNat 0)).toNat zerO)).R).yz = z25.R.yz)) && ((decide ((((z8.getD ((z17.getD ((Int.tmod (((Int.tmod i (z8.length : Int)) + (z8.length : Int))) (z8.length : Int))).toNat 0)).toNat zerO)).R).zx = z25.R.zx)) && ((decide ((((z8.getD ((z17.getD ((Int.tmod (((Int.tmod i (z8.length : Int)) + (z8.length : Int))) (z8.length : Int))).toNat 0)).toNat zerO)).R).zy = z25.R.zy)) && ((decide ((((z8.getD ((z17.getD ((Int.tmod (((Int.tmod i (z8.length : Int)) + (z8.length : Int))) (z8.length : Int))).toNat 0)).toNat zerO)).R).zz = z25.R.zz)) && ((decide ((((z8.getD ((z17.getD ((Int.tmod (((Int.tmod i (z8.length : Int)) + (z8.length : Int))) (z8.length : Int))).toNat 0)).toNat zerO)).T).x = z25.T.x)) && ((decide ((((z8.getD ((z17.getD ((Int.tmod (((Int.tmod i (z8.length : Int)) + (z8.length : Int))) (z8.length : Int))).toNat 0)).toNat zerO)).T).y = z25.T.y)) && ((decide ((((z8.getD ((z17.getD ((Int.tmod (((Int.tmod i (z8.length : Int)) + (z8.length : Int))) (z8.length : Int))).toNat 0)).toNat zerO)).T).z = z25.T.z)) && true))))))))))))) = false →
((leP 0 (z8.length : Int) ∧
 lfit 8 ((lrep (z8.length : Int) (0 : Int)))) ∧
((leP 0 (z8.length : Int) ∧
 lfit 8 ((lrep (z8.length : Int) (0 : Int)))) ∧
(cnP z8 ((Int.tmod (((Int.tmod i (z8.length : Int)) + (z8.length : Int))) (z8.length : Int))) ((Int.tmod (((Int.tmod j (z8.length : Int)) + (z8.length : Int))) (z8.length : Int))) ((lrep (z8.length : Int) (0 : Int))) ((lrep (z8.length : Int) (0 : Int))) 0 ∧
∀ z38 : List Int,
∀ z39 : List Int,
∀ z40 : Int,
((decide ((-9223372036854775808) ≤ z40)) = true →
((decide (z40 ≤ 9223372036854775807)) = true →
(cnP z8 ((Int.tmod (((Int.tmod i (z8.length : Int)) + (z8.length : Int))) (z8.length : Int))) ((Int.tmod (((Int.tmod j (z8.length : Int)) + (z8.length : Int))) (z8.length : Int))) z38 z39 z40 →
(eqP (z38.length : Int) ((((lrep (z8.length : Int) (0 : Int))).length : Int)) →
(eqP (z39.length : Int) ((((lrep (z8.length : Int) (0 : Int))).length : Int)) →
(((decide (z40 < (z8.length : Int))) = true →
 (inB z13 z40 ∧
 (((!(decide ((((z13.getD (z40).toNat [])).length : Int) = (z8.length : Int)))) = true →
  (false, ()) = (true, ())) ∧
 ((!(decide ((((z13.getD (z40).toNat [])).length : Int) = (z8.length : Int)))) = false →
 (inB z13 ((Int.tmod (((Int.tmod i (z8.length : Int)) + (z8.length : Int))) (z8.length : Int))) ∧
 (inB ((z13.getD ((Int.tmod (((Int.tmod i (z8.length : Int)) + (z8.length : Int))) (z8.length : Int))).toNat [])) z40 ∧
 (inB z13 z40 ∧
 (inB ((z13.getD (z40).toNat [])) ((Int.tmod (((Int.tmod j (z8.length : Int)) + (z8.length : Int))) (z8.length : Int))) ∧
 (((decide ((((z13.getD ((Int.tmod (((Int.tmod i (z8.length : Int)) + (z8.length : Int))) (z8.length : Int))).toNat [])).getD (z40).toNat 0) < 0)) = true →
  (false, ()) = (true, ())) ∧
 ((decide ((((z13.getD ((Int.tmod (((Int.tmod i (z8.length : Int)) + (z8.length : Int))) (z8.length : Int))).toNat [])).getD (z40).toNat 0) < 0)) = false →
 (((decide ((z8.length : Int) ≤ (((z13.getD ((Int.tmod (((Int.tmod i (z8.length : Int)) + (z8.length : Int))) (z8.length : Int))).toNat [])).getD (z40).toNat 0))) = true →
  (false, ()) = (true, ())) ∧
 ((decide ((z8.length : Int) ≤ (((z13.getD ((Int.tmod (((Int.tmod i (z8.length : Int)) + (z8.length : Int))) (z8.length : Int))).toNat [])).getD (z40).toNat 0))) = false →
 (((decide ((((z13.getD (z40).toNat [])).getD ((Int.tmod (((Int.tmod j (z8.length : Int)) + (z8.length : Int))) (z8.length : Int))).toNat 0) < 0)) = true →
  (false, ()) = (true, ())) ∧
 ((decide ((((z13.getD (z40).toNat [])).getD ((Int.tmod (((Int.tmod j (z8.length : Int)) + (z8.length : Int))) (z8.length : Int))).toNat 0) < 0)) = false →
 (((decide ((z8.length : Int) ≤ (((z13.getD (z40).toNat [])).getD ((Int.tmod (((Int.tmod j (z8.length : Int)) + (z8.length : Int))) (z8.length : Int))).toNat 0))) = true →
  (false, ()) = (true, ())) ∧
 ((decide ((z8.length : Int) ≤ (((z13.getD (z40).toNat [])).getD ((Int.tmod (((Int.tmod j (z8.length : Int)) + (z8.length : Int))) (z8.length : Int))).toNat 0))) = false →
 (inB z38 ((((z13.getD ((Int.tmod (((Int.tmod i (z8.length : Int)) + (z8.length : Int))) (z8.length : Int))).toNat [])).getD (z40).toNat 0)) ∧
 (inB z38 ((((z13.getD ((Int.tmod (((Int.tmod i (z8.length : Int)) + (z8.length : Int))) (z8.length : Int))).toNat [])).getD (z40).toNat 0)) ∧
 (inB z39 ((((z13.getD (z40).toNat [])).getD ((Int.tmod (((Int.tmod j (z8.length : Int)) + (z8.length : Int))) (z8.length : Int))).toNat 0)) ∧
 (inB z39 ((((z13.getD (z40).toNat [])).getD ((Int.tmod (((Int.tmod j (z8.length : Int)) + (z8.length : Int))) (z8.length : Int))).toNat 0)) ∧
 (cnP z8 ((Int.tmod (((Int.tmod i (z8.length : Int)) + (z8.length : Int))) (z8.length : Int))) ((Int.tmod (((Int.tmod j (z8.length : Int)) + (z8.length : Int))) (z8.length : Int))) (lset z38 ((((z13.getD ((Int.tmod (((Int.tmod i (z8.length : Int)) + (z8.length : Int))) (z8.length : Int))).toNat [])).getD (z40).toNat 0)) ((w64 (((z38.getD ((((z13.getD ((Int.tmod (((Int.tmod i (z8.length : Int)) + (z8.length : Int))) (z8.length : Int))).toNat [])).getD (z40).toNat 0)).toNat 0) + 1))))) (lset z39 ((((z13.getD (z40).toNat [])).getD ((Int.tmod (((Int.tmod j (z8.length : Int)) + (z8.length : Int))) (z8.length : Int))).toNat 0)) ((w64 (((z39.getD ((((z13.getD (z40).toNat [])).getD ((Int.tmod (((Int.tmod j (z8.length : Int)) + (z8.length : Int))) (z8.length : Int))).toNat 0)).toNat 0) + 1))))) ((w64 (z40 + 1))) ∧
 ((decide (0 ≤ opMu z8 ((w64 (z40 + 1))))) = true ∧
 (decide (opMu z8 ((w64 (z40 + 1))) < opMu z8 z40)) = true)))))))))))))))))))))) ∧
((decide (z40 < (z8.length : Int))) = false →
(rgP (z8.length : Int) 0 ∧
∀ z47 : Int,
((decide ((-9223372036854775808) ≤ z47)) = true →
((decide (z47 ≤ 9223372036854775807)) = true →
(rgP (z8.length : Int) z47 →
(((decide (z47 < (z8.length : Int))) = true →
 (inB z38 z47 ∧
 (((!(decide ((z38.getD (z47).toNat 0) = 1))) = true →
  (false, ()) = (true, ())) ∧
 ((!(decide ((z38.getD (z47).toNat 0) = 1))) = false →
 (inB z39 z47 ∧
 (((!(decide ((z39.getD (z47).toNat 0) = 1))) = true →
  (false, ()) = (true, ())) ∧
 ((!(decide ((z39.getD (z47).toNat 0) = 1))) = false →
 (rgP (z8.length : Int) ((w64 (z47 + 1))) ∧
 ((decide (0 ≤ rgMu (z8.length : Int) ((w64 (z47 + 1))))) = true ∧
 (decide (rgMu (z8.length : Int) ((w64 (z47 + 1))) < rgMu (z8.length : Int) z47)) = true))))))))) ∧
((decide (z47 < (z8.length : Int))) = false →
(true, ()) = (true, ())))))))))))))))))))))))))))))))))))))))))))))))))))))))))))))))))))))))))))))))))))
theorem r_GroupProducts (x : HL C_GroupProducts.args) : runs (env0 [(26, C_awake5.hid), (27, C_r5Twin.hid), (14, C_gClose.hid), (19, C_gTable.hid), (20, C_gInverses.hid), (21, C_opMul.hid), (40, C_opInverse.hid)] [(12, 18, { fix := [(.tmp 7, .list .op), (.tmp 1, .int .i64), (.tmp 2, .int .i64)], vars := [(.itmp 16, .list .int), (.itmp 17, .list .int), (.tmp 177, .int .i64)], inv := fun y v => cnP y.1 y.2.1 y.2.2.1 v.1 v.2.1 v.2.2.1, mu := fun y v => opMu y.1 v.2.2.1 }), (12, 29, { fix := [(.tmp 7, .list .op)], vars := [(.tmp 231, .int .i64)], inv := fun y v => rgP (lenI y.1) v.1, mu := fun y v => rgMu (lenI y.1) v.1 })] []) 400 12 C_GroupProducts x = T_GroupProducts x.1 x.2.1 x.2.2.1 := by kernel_rfl
theorem p_GroupProducts (l : List Op3) (i : Int) (j : Int) (h0 : (Sh.list .op).okA l) (h1 : (Sh.int .i64).okA i) (h2 : (Sh.int .i64).okA j) : T_GroupProducts l i j := by
  unfold T_GroupProducts
  refine ⟨trivial, fun z hz => ⟨fun h => absurd (hz ▸ h) (by decide), fun _ => ⟨trivial, fun a ha => ⟨trivial, fun g hg e he => ⟨fun _ => rfl, fun hze => ⟨trivial, fun t ht e1 he1 => ⟨trivial, fun v hv e2 he2 => ?_⟩⟩⟩⟩⟩⟩⟩
  subst ha
  have hz0 : cloE a = 0 := by rw [← he]; simpa using hze
  have hI := clo_isG hz0
  rw [← hg] at hI
  have hc := isG_chk hI
  have hlen := hI.len
  have hone := List.length_pos_of_mem ((hI.mem _).2 .one)
  obtain ⟨hF, hnd, honem, hcl⟩ := chk_grp hc
  have hII := idx_in i hone
  have hJJ := idx_in j hone
  generalize Int.tmod (Int.tmod i (g.length : Int) + (g.length : Int)) (g.length : Int) = x at hII ⊢
  generalize Int.tmod (Int.tmod j (g.length : Int) + (g.length : Int)) (g.length : Int) = y at hJJ ⊢
  have hA := getD_mem hII.1 hII.2 zerO
  have hB := getD_mem hJJ.1 hJJ.2 zerO
  have htl : t.length = g.length := by rw [ht]; exact tab_len hc
  have hvl : v.length = g.length := by rw [hv]; exact inv_len hc
  have htx : t.getD x.toNat [] = rowO g (g.getD x.toNat zerO) := by rw [ht]; exact tab_at hc hII
  have hrow : (rowO g (g.getD x.toNat zerO)).getD y.toNat 0 = idxO g (mulO (g.getD x.toNat zerO) (g.getD y.toNat zerO)) := rowO_get hJJ.1 hJJ.2
  have hpm := hcl _ hA _ hB
  have hpi : 0 ≤ idxO g (mulO (g.getD x.toNat zerO) (g.getD y.toNat zerO)) ∧ idxO g (mulO (g.getD x.toNat zerO) (g.getD y.toNat zerO)) < (g.length : Int) := ⟨(idxD_mem hpm).1, (idxD_mem hpm).2.1⟩
  have hmE := (cg_of hF hcl hA hB).1
  obtain ⟨hi1, hi2, hi3⟩ := inv_at hc hII
  rw [← hv] at hi1 hi2
  have hgl : (g.length : Int) ≠ 0 := by omega
  have htI : inB t x := ⟨hII.1, by rw [htl]; exact hII.2⟩
  have hrI : inB (rowO g (g.getD x.toNat zerO)) y := ⟨hJJ.1, by rw [rowO_len]; exact hJJ.2⟩
  rw [htx, hrow, htl, hvl, rowO_len]
  refine ⟨fun h => absurd h (by rw [he1, hc]; decide), fun _ => ⟨fun h => absurd h (by rw [he2, hc]; decide), fun _ => ⟨fun h => absurd h (by simp), fun _ => ⟨fun h => absurd h (by simp), fun _ => ⟨hgl, hgl, hgl, hgl, hII, hJJ, trivial, hII, trivial, fun u hu ie hie => ?_⟩⟩⟩⟩⟩
  have hu' : u = invO (g.getD x.toNat zerO) := by rw [hu]; exact if_pos hi3
  rw [eqOc', eqOc']
  have hsel : selO (mulE (g.getD x.toNat zerO) (g.getD y.toNat zerO)) (mulO (g.getD x.toNat zerO) (g.getD y.toNat zerO)) = mulO (g.getD x.toNat zerO) (g.getD y.toNat zerO) := if_pos hmE
  rw [hsel, at_idx hpm, hi2, hu', hmE, show ie = 0 from hie.trans hi3]
  refine ⟨fun h => absurd h (by decide), fun _ => ⟨fun h => absurd h (by decide), fun _ => ⟨htI, fun h => absurd h (by simp), fun _ => ⟨htI, hrI, fun h => absurd (of_decide_eq_true h) (by omega), fun _ => ⟨htI, hrI, fun h => absurd (of_decide_eq_true h) (by omega), fun _ => ⟨htI, hrI, hpi, fun h => absurd h (by simp), fun _ => ⟨⟨hII.1, by rw [hvl]; exact hII.2⟩, fun h => absurd (of_decide_eq_true h) (by omega), fun _ => ⟨⟨hII.1, by rw [hvl]; exact hII.2⟩, fun h => absurd (of_decide_eq_true h) (by omega), fun _ => ⟨⟨hII.1, by rw [hvl]; exact hII.2⟩, hi1, fun h => absurd h (by simp), fun _ => ?_⟩⟩⟩⟩⟩⟩⟩⟩⟩
  have hfit : leP 0 (g.length : Int) ∧ lfit 8 (lrep (g.length : Int) (0 : Int)) := ⟨by show (0 : Int) ≤ _; omega, by show (lrep (g.length : Int) (0 : Int)).length * 8 ≤ 140737488355328; simp [lrep]; omega⟩
  refine ⟨hfit, hfit, cn_init g x y, fun r c k _ _ hK _ _ => ⟨fun hk => ?_, fun hk => ⟨rg_init g, fun k2 _ _ hK2 => ⟨fun hk2 => ?_, fun _ => rfl⟩⟩⟩⟩
  · have hk := of_decide_eq_true hk
    have hkin : inB g k := ⟨hK.1, hk⟩
    have htk : t.getD k.toNat [] = rowO g (g.getD k.toNat zerO) := by rw [ht]; exact tab_at hc hkin
    have hC := getD_mem hkin.1 hkin.2 zerO
    have e1 : (rowO g (g.getD x.toNat zerO)).getD k.toNat 0 = idxO g (mulO (g.getD x.toNat zerO) (g.getD k.toNat zerO)) := rowO_get hK.1 hk
    have e2 : (rowO g (g.getD k.toNat zerO)).getD y.toNat 0 = idxO g (mulO (g.getD k.toNat zerO) (g.getD y.toNat zerO)) := rowO_get hJJ.1 hJJ.2
    have m1 := idxD_mem (hcl _ hA _ hC)
    have m2 := idxD_mem (hcl _ hC _ hB)
    have n1 : 0 ≤ idxO g (mulO (g.getD x.toNat zerO) (g.getD k.toNat zerO)) ∧ idxO g (mulO (g.getD x.toNat zerO) (g.getD k.toNat zerO)) < (g.length : Int) := ⟨m1.1, m1.2.1⟩
    have n2 : 0 ≤ idxO g (mulO (g.getD k.toNat zerO) (g.getD y.toNat zerO)) ∧ idxO g (mulO (g.getD k.toNat zerO) (g.getD y.toNat zerO)) < (g.length : Int) := ⟨m2.1, m2.2.1⟩
    have nx := cn_next hc hK hk (u := idxO g (mulO (g.getD x.toNat zerO) (g.getD k.toNat zerO))) (v := idxO g (mulO (g.getD k.toNat zerO) (g.getD y.toNat zerO))) e1.symm e2.symm n1.1 n1.2 n2.1 n2.2
    have hr : inB r (idxO g (mulO (g.getD x.toNat zerO) (g.getD k.toNat zerO))) := ⟨n1.1, by rw [hK.2.2.1]; exact n1.2⟩
    have hcc : inB c (idxO g (mulO (g.getD k.toNat zerO) (g.getD y.toNat zerO))) := ⟨n2.1, by rw [hK.2.2.2.1]; exact n2.2⟩
    have htkI : inB t k := ⟨hkin.1, by rw [htl]; exact hkin.2⟩
    rw [htk, e1, e2, rowO_len]
    exact ⟨htkI, fun h => absurd h (by simp), fun _ => ⟨htI, ⟨hK.1, by rw [rowO_len]; exact hk⟩, htkI, ⟨hJJ.1, by rw [rowO_len]; exact hJJ.2⟩, fun h => absurd (of_decide_eq_true h) (by omega), fun _ => ⟨fun h => absurd (of_decide_eq_true h) (by omega), fun _ => ⟨fun h => absurd (of_decide_eq_true h) (by omega), fun _ => ⟨fun h => absurd (of_decide_eq_true h) (by omega), fun _ => ⟨hr, hr, hcc, hcc, nx⟩⟩⟩⟩⟩⟩
  · have hk := of_decide_eq_false hk
    have hk2 := of_decide_eq_true hk2
    have hkn : k.toNat = g.length := by have := hK.1; have := hK.2.1; omega
    have hx2 : k2.toNat < g.length := by have := hK2.1; omega
    obtain ⟨r1, r2⟩ := hK.2.2.2.2 k2.toNat hx2
    rw [hkn, row_once hc hII.1 hII.2 hx2] at r1
    rw [hkn, col_once hc hJJ.1 hJJ.2 hx2] at r2
    rw [r1, r2]
    exact ⟨⟨hK2.1, by rw [hK.2.2.1]; exact hk2⟩, fun h => absurd h (by decide), fun _ => ⟨⟨hK2.1, by rw [hK.2.2.2.1]; exact hk2⟩, fun h => absurd h (by decide), fun _ => rg_next (by omega) hK2 hk2⟩⟩
theorem s_GroupProducts : Sound Try.prog 12 C_GroupProducts :=
  sound_of_eq (env0_ok (.cons s_awake5.hid (.cons s_r5Twin.hid (.cons s_gClose.hid (.cons s_gTable.hid (.cons s_gInverses.hid (.cons s_opMul.hid (.cons s_opInverse.hid (.nil))))))))) (fun x => T_GroupProducts x.1 x.2.1 x.2.2.1) r_GroupProducts fun x ok hp => p_GroupProducts x.1 x.2.1 x.2.2.1 ok.1 ok.2.1 ok.2.2.1
end Go.Fx
