/-
  Contracts: Order.
-/
import Derived.Test.YthljaepanhdmiaaK5
namespace Go.Fx
open Go Go.Proofs
set_option maxRecDepth 100000
set_option linter.unusedVariables false
noncomputable def C_Order : Contract := { args := [.agg .mat], res := [.int .i64, .int .i64], pre := fun _ => True, F := fun x => ((ordZ x.1 : Int), (ordE x.1 : Int), ()) }
def T_Order (m : M3) : Prop :=
  (True ∧
(((!(decide (uniE m = 0))) = true →
 (0, (uniE m, ())) = (ordZ m, (ordE m, ()))) ∧
((!(decide (uniE m = 0))) = false →
(((!(mhas eqI ((mset eqI ((mset eqI ((mset eqI ((mset eqI (mset eqI [] 3 1) 2 6)) 1 4)) 0 3)) (-1) 2)) ((w64 ((selI (uniE m) (w64 (detZ m)) * (w64 (((w64 (m.xx + m.yy)) + m.zz))))))))) = true →
 (0, (9, ())) = (ordZ m, (ordE m, ()))) ∧
((!(mhas eqI ((mset eqI ((mset eqI ((mset eqI ((mset eqI (mset eqI [] 3 1) 2 6)) 1 4)) 0 3)) (-1) 2)) ((w64 ((selI (uniE m) (w64 (detZ m)) * (w64 (((w64 (m.xx + m.yy)) + m.zz))))))))) = false →
(((decide (selI (uniE m) (w64 (detZ m)) < 0)) = true →
 (((decide ((Int.tmod ((mgetD eqI ((mset eqI ((mset eqI ((mset eqI ((mset eqI (mset eqI [] 3 1) 2 6)) 1 4)) 0 3)) (-1) 2)) ((w64 ((selI (uniE m) (w64 (detZ m)) * (w64 (((w64 (m.xx + m.yy)) + m.zz))))))))) 2) = 1)) = true →
  (True ∧
  (((!powZ m ((w64 (((mgetD eqI ((mset eqI ((mset eqI ((mset eqI ((mset eqI (mset eqI [] 3 1) 2 6)) 1 4)) 0 3)) (-1) 2)) ((w64 ((selI (uniE m) (w64 (detZ m)) * (w64 (((w64 (m.xx + m.yy)) + m.zz)))))))) * 2))))) = true →
   (0, (9, ())) = (ordZ m, (ordE m, ()))) ∧
  ((!powZ m ((w64 (((mgetD eqI ((mset eqI ((mset eqI ((mset eqI ((mset eqI (mset eqI [] 3 1) 2 6)) 1 4)) 0 3)) (-1) 2)) ((w64 ((selI (uniE m) (w64 (detZ m)) * (w64 (((w64 (m.xx + m.yy)) + m.zz)))))))) * 2))))) = false →
  (oInv m ((w64 (((mgetD eqI ((mset eqI ((mset eqI ((mset eqI ((mset eqI (mset eqI [] 3 1) 2 6)) 1 4)) 0 3)) (-1) 2)) ((w64 ((selI (uniE m) (w64 (detZ m)) * (w64 (((w64 (m.xx + m.yy)) + m.zz)))))))) * 2)))) 1 ∧
  ∀ z6 : Int,
  ((decide ((-9223372036854775808) ≤ z6)) = true →
  ((decide (z6 ≤ 9223372036854775807)) = true →
  (oInv m ((w64 (((mgetD eqI ((mset eqI ((mset eqI ((mset eqI ((mset eqI (mset eqI [] 3 1) 2 6)) 1 4)) 0 3)) (-1) 2)) ((w64 ((selI (uniE m) (w64 (detZ m)) * (w64 (((w64 (m.xx + m.yy)) + m.zz)))))))) * 2)))) z6 →
  (((decide (z6 < (w64 (((mgetD eqI ((mset eqI ((mset eqI ((mset eqI ((mset eqI (mset eqI [] 3 1) 2 6)) 1 4)) 0 3)) (-1) 2)) ((w64 ((selI (uniE m) (w64 (detZ m)) * (w64 (((w64 (m.xx + m.yy)) + m.zz)))))))) * 2))))) = true →
   ((z6 ≠ 0) ∧
   (((decide ((Int.tmod ((w64 (((mgetD eqI ((mset eqI ((mset eqI ((mset eqI ((mset eqI (mset eqI [] 3 1) 2 6)) 1 4)) 0 3)) (-1) 2)) ((w64 ((selI (uniE m) (w64 (detZ m)) * (w64 (((w64 (m.xx + m.yy)) + m.zz)))))))) * 2)))) z6) = 0)) = true →
    (True ∧
    ((powZ m z6 = true →
     (z6, (0, ())) = (ordZ m, (ordE m, ()))) ∧
    (powZ m z6 = false →
    (oInv m ((w64 (((mgetD eqI ((mset eqI ((mset eqI ((mset eqI ((mset eqI (mset eqI [] 3 1) 2 6)) 1 4)) 0 3)) (-1) 2)) ((w64 ((selI (uniE m) (w64 (detZ m)) * (w64 (((w64 (m.xx + m.yy)) + m.zz)))))))) * 2)))) ((w64 (z6 + 1))) ∧
    ((decide (0 ≤ pMu ((w64 (((mgetD eqI ((mset eqI ((mset eqI ((mset eqI ((mset eqI (mset eqI [] 3 1) 2 6)) 1 4)) 0 3)) (-1) 2)) ((w64 ((selI (uniE m) (w64 (detZ m)) * (w64 (((w64 (m.xx + m.yy)) + m.zz)))))))) * 2)))) ((w64 (z6 + 1))))) = true ∧
    (decide (pMu ((w64 (((mgetD eqI ((mset eqI ((mset eqI ((mset eqI ((mset eqI (mset eqI [] 3 1) 2 6)) 1 4)) 0 3)) (-1) 2)) ((w64 ((selI (uniE m) (w64 (detZ m)) * (w64 (((w64 (m.xx + m.yy)) + m.zz)))))))) * 2)))) ((w64 (z6 + 1))) < pMu ((w64 (((mgetD eqI ((mset eqI ((mset eqI ((mset eqI ((mset eqI (mset eqI [] 3 1) 2 6)) 1 4)) 0 3)) (-1) 2)) ((w64 ((selI (uniE m) (w64 (detZ m)) * (w64 (((w64 (m.xx + m.yy)) + m.zz)))))))) * 2)))) z6)) = true)))))) ∧
   ((decide ((Int.tmod ((w64 (((mgetD eqI ((mset eqI ((mset eqI ((mset eqI ((mset eqI (mset eqI [] 3 1) 2 6)) 1 4)) 0 3)) (-1) 2)) ((w64 ((selI (uniE m) (w64 (detZ m)) * (w64 (((w64 (m.xx + m.yy)) + m.zz)))))))) * 2)))) z6) = 0)) = false →
   (oInv m ((w64 (((mgetD eqI ((mset eqI ((mset eqI ((mset eqI ((mset eqI (mset eqI [] 3 1) 2 6)) 1 4)) 0 3)) (-1) 2)) ((w64 ((selI (uniE m) (w64 (detZ m)) * (w64 (((w64 (m.xx + m.yy)) + m.zz)))))))) * 2)))) ((w64 (z6 + 1))) ∧
   ((decide (0 ≤ pMu ((w64 (((mgetD eqI ((mset eqI ((mset eqI ((mset eqI ((mset eqI (mset eqI [] 3 1) 2 6)) 1 4)) 0 3)) (-1) 2)) ((w64 ((selI (uniE m) (w64 (detZ m)) * (w64 (((w64 (m.xx + m.yy)) + m.zz)))))))) * 2)))) ((w64 (z6 + 1))))) = true ∧
   (decide (pMu ((w64 (((mgetD eqI ((mset eqI ((mset eqI ((mset eqI ((mset eqI (mset eqI [] 3 1) 2 6)) 1 4)) 0 3)) (-1) 2)) ((w64 ((selI (uniE m) (w64 (detZ m)) * (w64 (((w64 (m.xx + m.yy)) + m.zz)))))))) * 2)))) ((w64 (z6 + 1))) < pMu ((w64 (((mgetD eqI ((mset eqI ((mset eqI ((mset eqI ((mset eqI (mset eqI [] 3 1) 2 6)) 1 4)) 0 3)) (-1) 2)) ((w64 ((selI (uniE m) (w64 (detZ m)) * (w64 (((w64 (m.xx + m.yy)) + m.zz)))))))) * 2)))) z6)) = true)))))) ∧
  ((decide (z6 < (w64 (((mgetD eqI ((mset eqI ((mset eqI ((mset eqI ((mset eqI (mset eqI [] 3 1) 2 6)) 1 4)) 0 3)) (-1) 2)) ((w64 ((selI (uniE m) (w64 (detZ m)) * (w64 (((w64 (m.xx + m.yy)) + m.zz)))))))) * 2))))) = false →
  ((w64 (((mgetD eqI ((mset eqI ((mset eqI ((mset eqI ((mset eqI (mset eqI [] 3 1) 2 6)) 1 4)) 0 3)) (-1) 2)) ((w64 ((selI (uniE m) (w64 (detZ m)) * (w64 (((w64 (m.xx + m.yy)) + m.zz)))))))) * 2))), (0, ())) = (ordZ m, (ordE m, ())))))))))))) ∧
 ((decide ((Int.tmod ((mgetD eqI ((mset eqI ((mset eqI ((mset eqI ((mset eqI (mset eqI [] 3 1) 2 6)) 1 4)) 0 3)) (-1) 2)) ((w64 ((selI (uniE m) (w64 (detZ m)) * (w64 (((w64 (m.xx + m.yy)) + m.zz))))))))) 2) = 1)) = false →
 (True ∧
 (((!powZ m ((mgetD eqI ((mset eqI ((mset eqI ((mset eqI ((mset eqI (mset eqI [] 3 1) 2 6)) 1 4)) 0 3)) (-1) 2)) ((w64 ((selI (uniE m) (w64 (detZ m)) * (w64 (((w64 (m.xx + m.yy)) + m.zz)))))))))) = true →
  (0, (9, ())) = (ordZ m, (ordE m, ()))) ∧
 ((!powZ m ((mgetD eqI ((mset eqI ((mset eqI ((mset eqI ((mset eqI (mset eqI [] 3 1) 2 6)) 1 4)) 0 3)) (-1) 2)) ((w64 ((selI (uniE m) (w64 (detZ m)) * (w64 (((w64 (m.xx + m.yy)) + m.zz)))))))))) = false →
 (oInv m ((mgetD eqI ((mset eqI ((mset eqI ((mset eqI ((mset eqI (mset eqI [] 3 1) 2 6)) 1 4)) 0 3)) (-1) 2)) ((w64 ((selI (uniE m) (w64 (detZ m)) * (w64 (((w64 (m.xx + m.yy)) + m.zz))))))))) 1 ∧
 ∀ z6 : Int,
 ((decide ((-9223372036854775808) ≤ z6)) = true →
 ((decide (z6 ≤ 9223372036854775807)) = true →
 (oInv m ((mgetD eqI ((mset eqI ((mset eqI ((mset eqI ((mset eqI (mset eqI [] 3 1) 2 6)) 1 4)) 0 3)) (-1) 2)) ((w64 ((selI (uniE m) (w64 (detZ m)) * (w64 (((w64 (m.xx + m.yy)) + m.zz))))))))) z6 →
 (((decide (z6 < (mgetD eqI ((mset eqI ((mset eqI ((mset eqI ((mset eqI (mset eqI [] 3 1) 2 6)) 1 4)) 0 3)) (-1) 2)) ((w64 ((selI (uniE m) (w64 (detZ m)) * (w64 (((w64 (m.xx + m.yy)) + m.zz)))))))))) = true →
  ((z6 ≠ 0) ∧
  (((decide ((Int.tmod ((mgetD eqI ((mset eqI ((mset eqI ((mset eqI ((mset eqI (mset eqI [] 3 1) 2 6)) 1 4)) 0 3)) (-1) 2)) ((w64 ((selI (uniE m) (w64 (detZ m)) * (w64 (((w64 (m.xx + m.yy)) + m.zz))))))))) z6) = 0)) = true →
   (True ∧
   ((powZ m z6 = true →
    (z6, (0, ())) = (ordZ m, (ordE m, ()))) ∧
   (powZ m z6 = false →
   (oInv m ((mgetD eqI ((mset eqI ((mset eqI ((mset eqI ((mset eqI (mset eqI [] 3 1) 2 6)) 1 4)) 0 3)) (-1) 2)) ((w64 ((selI (uniE m) (w64 (detZ m)) * (w64 (((w64 (m.xx + m.yy)) + m.zz))))))))) ((w64 (z6 + 1))) ∧
   ((decide (0 ≤ pMu ((mgetD eqI ((mset eqI ((mset eqI ((mset eqI ((mset eqI (mset eqI [] 3 1) 2 6)) 1 4)) 0 3)) (-1) 2)) ((w64 ((selI (uniE m) (w64 (detZ m)) * (w64 (((w64 (m.xx + m.yy)) + m.zz))))))))) ((w64 (z6 + 1))))) = true ∧
   (decide (pMu ((mgetD eqI ((mset eqI ((mset eqI ((mset eqI ((mset eqI (mset eqI [] 3 1) 2 6)) 1 4)) 0 3)) (-1) 2)) ((w64 ((selI (uniE m) (w64 (detZ m)) * (w64 (((w64 (m.xx + m.yy)) + m.zz))))))))) ((w64 (z6 + 1))) < pMu ((mgetD eqI ((mset eqI ((mset eqI ((mset eqI ((mset eqI (mset eqI [] 3 1) 2 6)) 1 4)) 0 3)) (-1) 2)) ((w64 ((selI (uniE m) (w64 (detZ m)) * (w64 (((w64 (m.xx + m.yy)) + m.zz))))))))) z6)) = true)))))) ∧
  ((decide ((Int.tmod ((mgetD eqI ((mset eqI ((mset eqI ((mset eqI ((mset eqI (mset eqI [] 3 1) 2 6)) 1 4)) 0 3)) (-1) 2)) ((w64 ((selI (uniE m) (w64 (detZ m)) * (w64 (((w64 (m.xx + m.yy)) + m.zz))))))))) z6) = 0)) = false →
  (oInv m ((mgetD eqI ((mset eqI ((mset eqI ((mset eqI ((mset eqI (mset eqI [] 3 1) 2 6)) 1 4)) 0 3)) (-1) 2)) ((w64 ((selI (uniE m) (w64 (detZ m)) * (w64 (((w64 (m.xx + m.yy)) + m.zz))))))))) ((w64 (z6 + 1))) ∧
  ((decide (0 ≤ pMu ((mgetD eqI ((mset eqI ((mset eqI ((mset eqI ((mset eqI (mset eqI [] 3 1) 2 6)) 1 4)) 0 3)) (-1) 2)) ((w64 ((selI (uniE m) (w64 (detZ m)) * (w64 (((w64 (m.xx + m.yy)) + m.zz))))))))) ((w64 (z6 + 1))))) = true ∧
  (decide (pMu ((mgetD eqI ((mset eqI ((mset eqI ((mset eqI ((mset eqI (mset eqI [] 3 1) 2 6)) 1 4)) 0 3)) (-1) 2)) ((w64 ((selI (uniE m) (w64 (detZ m)) * (w64 (((w64 (m.xx + m.yy)) + m.zz))))))))) ((w64 (z6 + 1))) < pMu ((mgetD eqI ((mset eqI ((mset eqI ((mset eqI ((mset eqI (mset eqI [] 3 1) 2 6)) 1 4)) 0 3)) (-1) 2)) ((w64 ((selI (uniE m) (w64 (detZ m)) * (w64 (((w64 (m.xx + m.yy)) + m.zz))))))))) z6)) = true)))))) ∧
 ((decide (z6 < (mgetD eqI ((mset eqI ((mset eqI ((mset eqI ((mset eqI (mset eqI [] 3 1) 2 6)) 1 4)) 0 3)) (-1) 2)) ((w64 ((selI (uniE m) (w64 (detZ m)) * (w64 (((w64 (m.xx + m.yy)) + m.zz)))))))))) = false →
 ((mgetD eqI ((mset eqI ((mset eqI ((mset eqI ((mset eqI (mset eqI [] 3 1) 2 6)) 1 4)) 0 3)) (-1) 2)) ((w64 ((selI (uniE m) (w64 (detZ m)) * (w64 (((w64 (m.xx + m.yy)) + m.zz)))))))), (0, ())) = (ordZ m, (ordE m, ())))))))))))))) ∧
((decide (selI (uniE m) (w64 (detZ m)) < 0)) = false →
(True ∧
(((!powZ m ((mgetD eqI ((mset eqI ((mset eqI ((mset eqI ((mset eqI (mset eqI [] 3 1) 2 6)) 1 4)) 0 3)) (-1) 2)) ((w64 ((selI (uniE m) (w64 (detZ m)) * (w64 (((w64 (m.xx + m.yy)) + m.zz)))))))))) = true →
 (0, (9, ())) = (ordZ m, (ordE m, ()))) ∧
((!powZ m ((mgetD eqI ((mset eqI ((mset eqI ((mset eqI ((mset eqI (mset eqI [] 3 1) 2 6)) 1 4)) 0 3)) (-1) 2)) ((w64 ((selI (uniE m) (w64 (detZ m)) * (w64 (((w64 (m.xx + m.yy)) + m.zz)))))))))) = false →
(oInv m ((mgetD eqI ((mset eqI ((mset eqI ((mset eqI ((mset eqI (mset eqI [] 3 1) 2 6)) 1 4)) 0 3)) (-1) 2)) ((w64 ((selI (uniE m) (w64 (detZ m)) * (w64 (((w64 (m.xx + m.yy)) + m.zz))))))))) 1 ∧
∀ z5 : Int,
((decide ((-9223372036854775808) ≤ z5)) = true →
((decide (z5 ≤ 9223372036854775807)) = true →
(oInv m ((mgetD eqI ((mset eqI ((mset eqI ((mset eqI ((mset eqI (mset eqI [] 3 1) 2 6)) 1 4)) 0 3)) (-1) 2)) ((w64 ((selI (uniE m) (w64 (detZ m)) * (w64 (((w64 (m.xx + m.yy)) + m.zz))))))))) z5 →
(((decide (z5 < (mgetD eqI ((mset eqI ((mset eqI ((mset eqI ((mset eqI (mset eqI [] 3 1) 2 6)) 1 4)) 0 3)) (-1) 2)) ((w64 ((selI (uniE m) (w64 (detZ m)) * (w64 (((w64 (m.xx + m.yy)) + m.zz)))))))))) = true →
 ((z5 ≠ 0) ∧
 (((decide ((Int.tmod ((mgetD eqI ((mset eqI ((mset eqI ((mset eqI ((mset eqI (mset eqI [] 3 1) 2 6)) 1 4)) 0 3)) (-1) 2)) ((w64 ((selI (uniE m) (w64 (detZ m)) * (w64 (((w64 (m.xx + m.yy)) + m.zz))))))))) z5) = 0)) = true →
  (True ∧
  ((powZ m z5 = true →
   (z5, (0, ())) = (ordZ m, (ordE m, ()))) ∧
  (powZ m z5 = false →
  (oInv m ((mgetD eqI ((mset eqI ((mset eqI ((mset eqI ((mset eqI (mset eqI [] 3 1) 2 6)) 1 4)) 0 3)) (-1) 2)) ((w64 ((selI (uniE m) (w64 (detZ m)) * (w64 (((w64 (m.xx + m.yy)) + m.zz))))))))) ((w64 (z5 + 1))) ∧
  ((decide (0 ≤ pMu ((mgetD eqI ((mset eqI ((mset eqI ((mset eqI ((mset eqI (mset eqI [] 3 1) 2 6)) 1 4)) 0 3)) (-1) 2)) ((w64 ((selI (uniE m) (w64 (detZ m)) * (w64 (((w64 (m.xx + m.yy)) + m.zz))))))))) ((w64 (z5 + 1))))) = true ∧
  (decide (pMu ((mgetD eqI ((mset eqI ((mset eqI ((mset eqI ((mset eqI (mset eqI [] 3 1) 2 6)) 1 4)) 0 3)) (-1) 2)) ((w64 ((selI (uniE m) (w64 (detZ m)) * (w64 (((w64 (m.xx + m.yy)) + m.zz))))))))) ((w64 (z5 + 1))) < pMu ((mgetD eqI ((mset eqI ((mset eqI ((mset eqI ((mset eqI (mset eqI [] 3 1) 2 6)) 1 4)) 0 3)) (-1) 2)) ((w64 ((selI (uniE m) (w64 (detZ m)) * (w64 (((w64 (m.xx + m.yy)) + m.zz))))))))) z5)) = true)))))) ∧
 ((decide ((Int.tmod ((mgetD eqI ((mset eqI ((mset eqI ((mset eqI ((mset eqI (mset eqI [] 3 1) 2 6)) 1 4)) 0 3)) (-1) 2)) ((w64 ((selI (uniE m) (w64 (detZ m)) * (w64 (((w64 (m.xx + m.yy)) + m.zz))))))))) z5) = 0)) = false →
 (oInv m ((mgetD eqI ((mset eqI ((mset eqI ((mset eqI ((mset eqI (mset eqI [] 3 1) 2 6)) 1 4)) 0 3)) (-1) 2)) ((w64 ((selI (uniE m) (w64 (detZ m)) * (w64 (((w64 (m.xx + m.yy)) + m.zz))))))))) ((w64 (z5 + 1))) ∧
 ((decide (0 ≤ pMu ((mgetD eqI ((mset eqI ((mset eqI ((mset eqI ((mset eqI (mset eqI [] 3 1) 2 6)) 1 4)) 0 3)) (-1) 2)) ((w64 ((selI (uniE m) (w64 (detZ m)) * (w64 (((w64 (m.xx + m.yy)) + m.zz))))))))) ((w64 (z5 + 1))))) = true ∧
 (decide (pMu ((mgetD eqI ((mset eqI ((mset eqI ((mset eqI ((mset eqI (mset eqI [] 3 1) 2 6)) 1 4)) 0 3)) (-1) 2)) ((w64 ((selI (uniE m) (w64 (detZ m)) * (w64 (((w64 (m.xx + m.yy)) + m.zz))))))))) ((w64 (z5 + 1))) < pMu ((mgetD eqI ((mset eqI ((mset eqI ((mset eqI ((mset eqI (mset eqI [] 3 1) 2 6)) 1 4)) 0 3)) (-1) 2)) ((w64 ((selI (uniE m) (w64 (detZ m)) * (w64 (((w64 (m.xx + m.yy)) + m.zz))))))))) z5)) = true)))))) ∧
((decide (z5 < (mgetD eqI ((mset eqI ((mset eqI ((mset eqI ((mset eqI (mset eqI [] 3 1) 2 6)) 1 4)) 0 3)) (-1) 2)) ((w64 ((selI (uniE m) (w64 (detZ m)) * (w64 (((w64 (m.xx + m.yy)) + m.zz)))))))))) = false →
((mgetD eqI ((mset eqI ((mset eqI ((mset eqI ((mset eqI (mset eqI [] 3 1) 2 6)) 1 4)) 0 3)) (-1) 2)) ((w64 ((selI (uniE m) (w64 (detZ m)) * (w64 (((w64 (m.xx + m.yy)) + m.zz)))))))), (0, ())) = (ordZ m, (ordE m, ()))))))))))))))))))
theorem r_Order (x : HL C_Order.args) : runs (env [(69, C_unit), (70, C_power)] [(37, 13, { fix := [(.tmp 7, .int .i64), (.cell 1, .agg .mat)], vars := [(.tmp 9, .int .i64)], inv := fun y v => oInv y.2.1 y.1 v.1, mu := fun y v => pMu y.1 v.1 })]) 400 37 C_Order x = T_Order x.1 := by kernel_rfl
theorem p_Order (m : M3) (h0 : (Sh.agg .mat).okA m) : T_Order m := by
  have no : ∀ {b : Bool}, (!b) = true → b = false := fun {b} h => by cases b <;> first | rfl | cases h
  have ye : ∀ {b : Bool}, (!b) = false → b = true := fun {b} h => by cases b <;> first | rfl | cases h
  refine ⟨trivial, fun h => ord_low (of_decide_eq_false (no h)), fun h => ?_⟩
  have hu : uniE m = 0 := of_decide_eq_true (ye h)
  refine ⟨fun h2 => ord_none hu (no h2), fun h2 => ?_⟩
  have hh : mhas eqI ordMap (ordT m) = true := ye h2
  obtain ⟨n1, n2⟩ := ordN_in hh
  refine ⟨fun hd => ⟨fun ht => ?_, fun ht => ?_⟩, fun hd => ?_⟩
  · have e : w64 (ordB m * 2) = ordN m := by
      unfold ordN; rw [if_pos (show ordD m < 0 from of_decide_eq_true hd), if_pos (show Int.tmod (ordB m) 2 = 1 from of_decide_eq_true ht)]
    exact ordTail (n := w64 (ordB m * 2)) (by rw [e]; exact n1) (by rw [e]; exact n2) (ord_some hu hh e)
  · have e : ordB m = ordN m := by
      unfold ordN; rw [if_pos (show ordD m < 0 from of_decide_eq_true hd), if_neg (show ¬ Int.tmod (ordB m) 2 = 1 from of_decide_eq_false ht)]
    exact ordTail (n := ordB m) (by rw [e]; exact n1) (by rw [e]; exact n2) (ord_some hu hh e)
  · have e : ordB m = ordN m := by
      unfold ordN; rw [if_neg (show ¬ ordD m < 0 from of_decide_eq_false hd)]
    exact ordTail (n := ordB m) (by rw [e]; exact n1) (by rw [e]; exact n2) (ord_some hu hh e)
theorem s_Order : Sound Try.prog 37 C_Order :=
  sound_of_eq (env_ok (.cons s_unit (.cons s_power (.nil)))) (fun x => T_Order x.1) r_Order fun x ok hp => p_Order x.1 ok.1
end Go.Fx
