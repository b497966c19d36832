/-
  Contracts: WholeIndices.
-/
import Derived.Test.YthoicknhjjlnjaaGreatK12
namespace Go.Fx
open Go Go.Proofs
set_option maxRecDepth 100000
set_option linter.unusedVariables false
set_option linter.unusedSimpArgs false
set_option linter.unusedSectionVars false
noncomputable def C_WholeIndices : Contract := { args := [.list .seed, .agg .v8, .int .u8, .int .u8, .int .u8, .agg .seed], res := [.bool], pre := fun _ => True, F := fun x => ((true : Bool), ()) }
def T_WholeIndices (l : List Sd) (h : V3) (pick : Int) (i : Int) (j : Int) (a : Sd) : Prop :=
  (True ∧
∀ z6 : Bool,
(z6 = true →
(((!z6) = true →
 (false, ()) = (true, ())) ∧
((!z6) = false →
(True ∧
∀ z9 : List Op3,
(z9 = sedL l →
(True ∧
∀ z11 : List Op3,
(z11 = cloL z9 →
∀ z13 : Int,
(z13 = cloE z9 →
(((!(decide (z13 = 0))) = true →
 (true, ()) = (true, ())) ∧
((!(decide (z13 = 0))) = false →
(nonE z11 ∧
(True ∧
∀ z16 : V3,
(z16 = smlV h →
(True ∧
∀ z18 : Bool,
(z18 = isB ([(Op3.mk ((M3.mk (-1) 0 0 0 1 0 0 0 (-1))) (V3.mk 0 12 0)), (Op3.mk (M3.mk 1 0 0 0 1 0 0 0 1) (V3.mk 0 0 0))]) (V3.mk 0 1 0) →
∀ z20 : Int,
(z20 = isE ([(Op3.mk ((M3.mk (-1) 0 0 0 1 0 0 0 (-1))) (V3.mk 0 12 0)), (Op3.mk (M3.mk 1 0 0 0 1 0 0 0 1) (V3.mk 0 0 0))]) (V3.mk 0 1 0) →
(((!(decide (z20 = 0))) = true →
 (false, ()) = (true, ())) ∧
((!(decide (z20 = 0))) = false →
(((!z18) = true →
 (false, ()) = (true, ())) ∧
((!z18) = false →
(True ∧
∀ z24 : List V3,
(z24 = hofL z11 z16 →
∀ z26 : Int,
(z26 = hkE z11 z16 →
(True ∧
∀ z28 : Int,
(z28 = cntN z11 z16 →
∀ z30 : Int,
(z30 = hkE z11 z16 →
(True ∧
∀ z32 : Bool,
(z32 = isB z11 z16 →
∀ z34 : Int,
(z34 = isE z11 z16 →
(True ∧
∀ z36 : Int,
(z36 = ceI z11 z16 →
∀ z38 : Bool,
(z38 = ceB z11 z16 →
∀ z40 : Int,
(z40 = isE z11 z16 →
(((!(decide (z26 = 0))) = true →
 (false, ()) = (true, ())) ∧
((!(decide (z26 = 0))) = false →
(((!(decide (z30 = 0))) = true →
 (false, ()) = (true, ())) ∧
((!(decide (z30 = 0))) = false →
(((!(decide (z34 = 0))) = true →
 (false, ()) = (true, ())) ∧
((!(decide (z34 = 0))) = false →
(((!(decide (z40 = 0))) = true →
 (false, ()) = (true, ())) ∧
((!(decide (z40 = 0))) = false →
(((decide ((z24.length : Int) = 0)) = true →
 (false, ()) = (true, ())) ∧
((decide ((z24.length : Int) = 0)) = false →
(unI z11 0 0 ∧
∀ z47 : Int,
((decide ((-9223372036854775808) ≤ z47)) = true →
((decide (z47 ≤ 9223372036854775807)) = true →
∀ z50 : Int,
((decide ((-9223372036854775808) ≤ z50)) = true →
((decide (z50 ≤ 9223372036854775807)) = true →
(unI z11 z47 z50 →
(((decide (z50 < (z11.length : Int))) = true →
 (frI z11 z50 true 0 ∧
 ∀ z55 : Bool,
 ∀ z56 : Int,
 ((decide ((-9223372036854775808) ≤ z56)) = true →
 ((decide (z56 ≤ 9223372036854775807)) = true →
 (frI z11 z50 z55 z56 →
 (((decide (z56 < z50)) = true →
  (inB z11 z56 ∧
  (inB z11 z50 ∧
  ((((decide ((((z11.getD (z56).toNat zerO)).R).xx = (((z11.getD (z50).toNat zerO)).R).xx)) && ((decide ((((z11.getD (z56).toNat zerO)).R).xy = (((z11.getD (z50).toNat zerO)).R).xy)) && ((decide ((((z11.getD (z56).toNat zerO)).R).xz = (((z11.getD (z50).toNat zerO)).R).xz)) && ((decide ((((z11.getD (z56).toNat zerO)).R).yx = (((z11.getD (z50).toNat zerO)).R).yx)) && ((decide ((((z11.getD (z56).toNat zerO)).R).yy = (((z11.getD (z50).toNat zerO)).R).yy)) && ((decide ((((z11.getD (z56).toNat zerO)).R).yz = (((z11.getD (z50).toNat zerO)).R).yz)) && ((decide ((((z11.getD (z56).toNat zerO)).R).zx = (((z11.getD (z50).toNat zerO)).R).zx)) && ((decide ((((z11.getD (z56).toNat zerO)).R).zy = (((z11.getD (z50).toNat zerO)).R).zy)) && ((decide ((((z11.getD (z56).toNat zerO)).R).zz = (((z11.getD (z50).toNat zerO)).R).zz)) && true))))))))) = true →
   (frI z11 z50 false ((w64 (z56 + 1))) ∧
   ((decide (0 ≤ unM z50 ((w64 (z56 + 1))))) = true ∧
   (decide (unM z50 ((w64 (z56 + 1))) < unM z50 z56)) = true))) ∧
  (((decide ((((z11.getD (z56).toNat zerO)).R).xx = (((z11.getD (z50).toNat zerO)).R).xx)) && ((decide ((((z11.getD (z56).toNat zerO)).R).xy = (((z11.getD (z50).toNat zerO)).R).xy)) && ((decide ((((z11.getD (z56).toNat zerO)).R).xz = (((z11.getD (z50).toNat zerO)).R).xz)) && ((decide ((((z11.getD (z56).toNat zerO)).R).yx = (((z11.getD (z50).toNat zerO)).R).yx)) && ((decide ((((z11.getD (z56).toNat zerO)).R).yy = (((z11.getD (z50).toNat zerO)).R).yy)) && ((decide ((((z11.getD (z56).toNat zerO)).R).yz = (((z11.getD (z50).toNat zerO)).R).yz)) && ((decide ((((z11.getD (z56).toNat zerO)).R).zx = (((z11.getD (z50).toNat zerO)).R).zx)) && ((decide ((((z11.getD (z56).toNat zerO)).R).zy = (((z11.getD (z50).toNat zerO)).R).zy)) && ((decide ((((z11.getD (z56).toNat zerO)).R).zz = (((z11.getD (z50).toNat zerO)).R).zz)) && true))))))))) = false →
  (frI z11 z50 z55 ((w64 (z56 + 1))) ∧
  ((decide (0 ≤ unM z50 ((w64 (z56 + 1))))) = true ∧
  (decide (unM z50 ((w64 (z56 + 1))) < unM z50 z56)) = true))))))) ∧
 ((decide (z56 < z50)) = false →
 ((z55 = true →
  (unI z11 ((w64 (z47 + 1))) ((w64 (z50 + 1))) ∧
  ((decide (0 ≤ opMu z11 ((w64 (z50 + 1))))) = true ∧
  (decide (opMu z11 ((w64 (z50 + 1))) < opMu z11 z50)) = true))) ∧
 (z55 = false →
 (unI z11 z47 ((w64 (z50 + 1))) ∧
 ((decide (0 ≤ opMu z11 ((w64 (z50 + 1))))) = true ∧
 (decide (opMu z11 ((w64 (z50 + 1))) < opMu z11 z50)) = true))))))))))) ∧
((decide (z50 < (z11.length : Int))) = false →
(((z24.length : Int) ≠ 0) ∧
(inB z24 ((Int.tmod pick (z24.length : Int))) ∧
(True ∧
∀ z55 : Bool,
(z55 = isB z11 ((z24.getD ((Int.tmod pick (z24.length : Int))).toNat (V3.mk 0 0 0))) →
∀ z57 : Int,
(z57 = isE z11 ((z24.getD ((Int.tmod pick (z24.length : Int))).toNat (V3.mk 0 0 0))) →
(True ∧
∀ z59 : Int,
(z59 = ceI z11 ((z24.getD ((Int.tmod pick (z24.length : Int))).toNat (V3.mk 0 0 0))) →
∀ z61 : Bool,
(z61 = ceB z11 ((z24.getD ((Int.tmod pick (z24.length : Int))).toNat (V3.mk 0 0 0))) →
∀ z63 : Int,
(z63 = isE z11 ((z24.getD ((Int.tmod pick (z24.length : Int))).toNat (V3.mk 0 0 0))) →
(True ∧
∀ z65 : List V3,
(z65 = hboL z11 z16 →
∀ z67 : Int,
(z67 = hkE z11 z16 →
(((!(decide (z57 = 0))) = true →
 (false, ()) = (true, ())) ∧
((!(decide (z57 = 0))) = false →
(((!(decide (z63 = 0))) = true →
 (false, ()) = (true, ())) ∧
((!(decide (z63 = 0))) = false →
(((!(decide (z67 = 0))) = true →
 (false, ()) = (true, ())) ∧
((!(decide (z67 = 0))) = false →
(((!(z32 == z55)) = true →
 (false, ()) = (true, ())) ∧
((!(z32 == z55)) = false →
(((!(z38 == z61)) = true →
 (false, ()) = (true, ())) ∧
((!(z38 == z61)) = false →
(((!(decide ((w64 (((z24.length : Int) * z28))) = z47))) = true →
 (false, ()) = (true, ())) ∧
((!(decide ((w64 (((z24.length : Int) * z28))) = z47))) = false →
(((!(z38 == (decide ((z65.length : Int) = (z24.length : Int))))) = true →
 (false, ()) = (true, ())) ∧
((!(z38 == (decide ((z65.length : Int) = (z24.length : Int))))) = false →
(((z11.length : Int) ≠ 0) ∧
(inB z11 ((Int.tmod i (z11.length : Int))) ∧
(((z11.length : Int) ≠ 0) ∧
(inB z11 ((Int.tmod j (z11.length : Int))) ∧
(True ∧
∀ z76 : Int,
(z76 = hpI (((z11.getD ((Int.tmod i (z11.length : Int))).toNat zerO))) z16 →
∀ z78 : Int,
(z78 = htE (((z11.getD ((Int.tmod i (z11.length : Int))).toNat zerO))) z16 →
(True ∧
∀ z80 : V3,
(z80 = htV (((z11.getD ((Int.tmod i (z11.length : Int))).toNat zerO))) z16 →
∀ z82 : Int,
(z82 = htE (((z11.getD ((Int.tmod i (z11.length : Int))).toNat zerO))) z16 →
(True ∧
∀ z84 : Int,
(z84 = hpI (((z11.getD ((Int.tmod j (z11.length : Int))).toNat zerO))) z80 →
∀ z86 : Int,
(z86 = htE (((z11.getD ((Int.tmod j (z11.length : Int))).toNat zerO))) z80 →
(True ∧
∀ z88 : Op3,
(z88 = prdO (((z11.getD ((Int.tmod i (z11.length : Int))).toNat zerO))) (((z11.getD ((Int.tmod j (z11.length : Int))).toNat zerO))) →
(True ∧
∀ z90 : Int,
(z90 = hpI z88 z16 →
∀ z92 : Int,
(z92 = htE z88 z16 →
(((!(decide (z78 = 0))) = true →
 (false, ()) = (true, ())) ∧
((!(decide (z78 = 0))) = false →
(((!(decide (z82 = 0))) = true →
 (false, ()) = (true, ())) ∧
((!(decide (z82 = 0))) = false →
(((!(decide (z86 = 0))) = true →
 (false, ()) = (true, ())) ∧
((!(decide (z86 = 0))) = false →
(((!(decide (z92 = 0))) = true →
 (false, ()) = (true, ())) ∧
((!(decide (z92 = 0))) = false →
(amP 24 ∧
∀ z98 : Int,
(z98 = amo ((w64 (((w64 (z76 + z84)) - z90)))) 24 →
(((!(decide (z98 = 0))) = true →
 (false, ()) = (true, ())) ∧
((!(decide (z98 = 0))) = false →
(True ∧
∀ z101 : Op3,
(z101 = wyO z11 z16 →
∀ z103 : Int,
(z103 = wyE z11 z16 →
(((!(z32 == (decide (z103 = 0)))) = true →
 (false, ()) = (true, ())) ∧
((!(z32 == (decide (z103 = 0)))) = false →
(((!z32) = true →
 (((!(decide (z103 = 9))) = true →
  (false, ()) = (true, ())) ∧
 ((!(decide (z103 = 9))) = false →
 ((z32 = true →
  (True ∧
  (((decide ((Int.tmod (w64 (dotV z16 z101.T)) 24) = 0)) = true →
   (false, ()) = (true, ())) ∧
  ((decide ((Int.tmod (w64 (dotV z16 z101.T)) 24) = 0)) = false →
  (True ∧
  (((!((decide ((tuV z101.R z16).x = z16.x)) && ((decide ((tuV z101.R z16).y = z16.y)) && ((decide ((tuV z101.R z16).z = z16.z)) && true)))) = true →
   (false, ()) = (true, ())) ∧
  ((!((decide ((tuV z101.R z16).x = z16.x)) && ((decide ((tuV z101.R z16).y = z16.y)) && ((decide ((tuV z101.R z16).z = z16.z)) && true)))) = false →
  (True ∧
  (True ∧
  (True ∧
  ∀ z111 : List Op3,
  (z111 = bgL ((Chg.mk (sgnM a.K) ((sedO (Sd.mk false a.K a.t0 a.t1 a.t2 a.Step)).T))) z11 →
  ∀ z113 : Int,
  (z113 = bgE ((Chg.mk (sgnM a.K) ((sedO (Sd.mk false a.K a.t0 a.t1 a.t2 a.Step)).T))) z11 →
  (True ∧
  ∀ z115 : V3,
  (z115 = idxV ((Chg.mk (sgnM a.K) ((sedO (Sd.mk false a.K a.t0 a.t1 a.t2 a.Step)).T))) z16 →
  ∀ z117 : Int,
  (z117 = idxE ((Chg.mk (sgnM a.K) ((sedO (Sd.mk false a.K a.t0 a.t1 a.t2 a.Step)).T))) z16 →
  (True ∧
  ∀ z119 : Bool,
  (z119 = isB z111 z115 →
  ∀ z121 : Int,
  (z121 = isE z111 z115 →
  (((decide (z113 = 0)) = true →
   (((decide (z117 = 0)) = true →
    (((decide (z121 = 0)) = true →
     ((z119 == z32), ()) = (true, ())) ∧
    ((decide (z121 = 0)) = false →
    (false, ()) = (true, ())))) ∧
   ((decide (z117 = 0)) = false →
   (false, ()) = (true, ())))) ∧
  ((decide (z113 = 0)) = false →
  (false, ()) = (true, ()))))))))))))))))))))) ∧
 (z32 = false →
 (True ∧
 (True ∧
 (True ∧
 ∀ z109 : List Op3,
 (z109 = bgL ((Chg.mk (sgnM a.K) ((sedO (Sd.mk false a.K a.t0 a.t1 a.t2 a.Step)).T))) z11 →
 ∀ z111 : Int,
 (z111 = bgE ((Chg.mk (sgnM a.K) ((sedO (Sd.mk false a.K a.t0 a.t1 a.t2 a.Step)).T))) z11 →
 (True ∧
 ∀ z113 : V3,
 (z113 = idxV ((Chg.mk (sgnM a.K) ((sedO (Sd.mk false a.K a.t0 a.t1 a.t2 a.Step)).T))) z16 →
 ∀ z115 : Int,
 (z115 = idxE ((Chg.mk (sgnM a.K) ((sedO (Sd.mk false a.K a.t0 a.t1 a.t2 a.Step)).T))) z16 →
 (True ∧
 ∀ z117 : Bool,
 (z117 = isB z109 z113 →
 ∀ z119 : Int,
 (z119 = isE z109 z113 →
 (((decide (z111 = 0)) = true →
  (((decide (z115 = 0)) = true →
   (((decide (z119 = 0)) = true →
    ((z117 == z32), ()) = (true, ())) ∧
   ((decide (z119 = 0)) = false →
   (false, ()) = (true, ())))) ∧
  ((decide (z115 = 0)) = false →
  (false, ()) = (true, ())))) ∧
 ((decide (z111 = 0)) = false →
 (false, ()) = (true, ()))))))))))))))))))) ∧
((!z32) = false →
((z32 = true →
 (True ∧
 (((decide ((Int.tmod (w64 (dotV z16 z101.T)) 24) = 0)) = true →
  (false, ()) = (true, ())) ∧
 ((decide ((Int.tmod (w64 (dotV z16 z101.T)) 24) = 0)) = false →
 (True ∧
 (((!((decide ((tuV z101.R z16).x = z16.x)) && ((decide ((tuV z101.R z16).y = z16.y)) && ((decide ((tuV z101.R z16).z = z16.z)) && true)))) = true →
  (false, ()) = (true, ())) ∧
 ((!((decide ((tuV z101.R z16).x = z16.x)) && ((decide ((tuV z101.R z16).y = z16.y)) && ((decide ((tuV z101.R z16).z = z16.z)) && true)))) = false →
 (True ∧
 (True ∧
 (True ∧
 ∀ z110 : List Op3,
 (z110 = bgL ((Chg.mk (sgnM a.K) ((sedO (Sd.mk false a.K a.t0 a.t1 a.t2 a.Step)).T))) z11 →
 ∀ z112 : Int,
 (z112 = bgE ((Chg.mk (sgnM a.K) ((sedO (Sd.mk false a.K a.t0 a.t1 a.t2 a.Step)).T))) z11 →
 (True ∧
 ∀ z114 : V3,
 (z114 = idxV ((Chg.mk (sgnM a.K) ((sedO (Sd.mk false a.K a.t0 a.t1 a.t2 a.Step)).T))) z16 →
 ∀ z116 : Int,
 (z116 = idxE ((Chg.mk (sgnM a.K) ((sedO (Sd.mk false a.K a.t0 a.t1 a.t2 a.Step)).T))) z16 →
 (True ∧
 ∀ z118 : Bool,
 (z118 = isB z110 z114 →
 ∀ z120 : Int,
 (z120 = isE z110 z114 →
 (((decide (z112 = 0)) = true →
  (((decide (z116 = 0)) = true →
   (((decide (z120 = 0)) = true →
    ((z118 == z32), ()) = (true, ())) ∧
   ((decide (z120 = 0)) = false →
   (false, ()) = (true, ())))) ∧
  ((decide (z116 = 0)) = false →
  (false, ()) = (true, ())))) ∧
 ((decide (z112 = 0)) = false →
 (false, ()) = (true, ()))))))))))))))))))))) ∧
(z32 = false →
(True ∧
(True ∧
(True ∧
∀ z108 : List Op3,
(z108 = bgL ((Chg.mk (sgnM a.K) ((sedO (Sd.mk false a.K a.t0 a.t1 a.t2 a.Step)).T))) z11 →
∀ z110 : Int,
(z110 = bgE ((Chg.mk (sgnM a.K) ((sedO (Sd.mk false a.K a.t0 a.t1 a.t2 a.Step)).T))) z11 →
(True ∧
∀ z112 : V3,
(z112 = idxV ((Chg.mk (sgnM a.K) ((sedO (Sd.mk false a.K a.t0 a.t1 a.t2 a.Step)).T))) z16 →
∀ z114 : Int,
(z114 = idxE ((Chg.mk (sgnM a.K) ((sedO (Sd.mk false a.K a.t0 a.t1 a.t2 a.Step)).T))) z16 →
(True ∧
∀ z116 : Bool,
(z116 = isB z108 z112 →
∀ z118 : Int,
(z118 = isE z108 z112 →
(((decide (z110 = 0)) = true →
 (((decide (z114 = 0)) = true →
  (((decide (z118 = 0)) = true →
   ((z116 == z32), ()) = (true, ())) ∧
  ((decide (z118 = 0)) = false →
  (false, ()) = (true, ())))) ∧
 ((decide (z114 = 0)) = false →
 (false, ()) = (true, ())))) ∧
((decide (z110 = 0)) = false →
(false, ()) = (true, ())))))))))))))))))))))))))))))))))))))))))))))))))))))))))))))))))))))))))))))))))))))))))))))))))))))))))))))))))))))))))))))))))))
theorem r_WholeIndices (x : HL C_WholeIndices.args) : runs (env0 [(4, C_tawake.hid), (24, C_seeds.hid), (23, C_gClose.hid), (6, C_tsmall.hid), (7, C_aIs.hid), (8, C_hOf.hid), (9, C_hCount.hid), (10, C_aCentric.hid), (11, C_hBoth.hid), (12, C_hPhase.hid), (13, C_hTurned.hid), (14, C_tproduct.hid), (15, C_tamong.hid), (16, C_aWhy.hid), (17, C_tdot.hid), (18, C_tturned.hid), (19, C_signs.hid), (20, C_seeded.hid), (21, C_bGroup.hid), (22, C_bIndex.hid)] [(3, 18, { fix := [(.tmp 13, .list .op)], vars := [(.tmp 26, .int .i64), (.tmp 27, .int .i64)], inv := fun y v => unI y.1 v.1 v.2.1, mu := fun y v => opMu y.1 v.2.1 }), (3, 22, { fix := [(.tmp 13, .list .op), (.tmp 27, .int .i64)], vars := [(.tmp 28, .bool), (.tmp 29, .int .i64)], inv := fun y v => frI y.1 y.2.1 v.1 v.2.1, mu := fun y v => unM y.2.1 v.2.1 })] []) 2500 3 C_WholeIndices x = T_WholeIndices x.1 x.2.1 x.2.2.1 x.2.2.2.1 x.2.2.2.2.1 x.2.2.2.2.2.1 := by kernel_rfl
theorem p_WholeIndices (l : List Sd) (h : V3) (pick : Int) (i : Int) (j : Int) (a : Sd) (h0 : (Sh.list .seed).okA l) (h1 : (Sh.agg .v8).okA h) (h2 : (Sh.int .u8).okA pick) (h3 : (Sh.int .u8).okA i) (h4 : (Sh.int .u8).okA j) (h5 : (Sh.agg .seed).okA a) : T_WholeIndices l h pick i j a := by
  unfold T_WholeIndices
  refine ⟨trivial, fun z6 w6 => ⟨fun q => absurd q (by rw [w6]; decide), fun _ => ⟨trivial, fun z9 w9 => ⟨trivial, fun g hgd z13 w13 => ⟨fun _ => rfl, fun hC => ?_⟩⟩⟩⟩⟩
  subst w9
  have C : cloE (sedL l) = 0 := by rw [← w13]; simpa using hC
  have hg : chkE g = 0 := by rw [hgd]; exact clo_chk C
  obtain ⟨gF, gN, g1, gM⟩ := chk_grp hg
  have gS : ∀ o ∈ g, Bnd 1 o.R := fun o ho => clo_small C (by rw [← hgd]; exact ho)
  have hlen := chk_len hg
  have hpos : 0 < g.length := List.length_pos_of_mem g1
  refine ⟨(fun e => by rw [e] at g1; cases g1), trivial, fun k hk => ⟨trivial, fun z18 w18 z20 w20 => ?_⟩⟩
  have E18 : z18 = true := w18.trans two_is.2
  have E20 : z20 = 0 := w20.trans two_is.1
  have ok : okH k = true := by rw [hk]; exact (sml_ok h).1
  have hz : hkE g k = 0 := by unfold hkE; rw [if_pos ok]; exact hg
  have rowOk : ∀ o ∈ g, okH (rowZ o.R k) = true := fun o ho => by rw [hk]; exact sml_row (gS o ho) h
  refine ⟨fun q => absurd q (by rw [E20]; decide), fun _ => ⟨fun q => absurd q (by rw [E18]; decide), fun _ => ⟨trivial, fun o ho z26 w26 => ⟨trivial, fun n hn z30 w30 => ⟨trivial, fun z32 w32 z34 w34 => ⟨trivial, fun z36 w36 z38 w38 z40 w40 => ?_⟩⟩⟩⟩⟩⟩
  have E26 : z26 = 0 := w26.trans hz
  have E30 : z30 = 0 := w30.trans hz
  have E34 : z34 = 0 := w34.trans hz
  have E40 : z40 = 0 := w40.trans hz
  have hol : 0 < o.length := by rw [ho]; exact List.length_pos_of_mem (hof_self hz)
  have ho192 : (o.length : Int) ≤ 192 := by rw [ho]; exact hof_len g k
  refine ⟨fun q => absurd q (by rw [E26]; decide), fun _ => ⟨fun q => absurd q (by rw [E30]; decide), fun _ => ⟨fun q => absurd q (by rw [E34]; decide), fun _ => ⟨fun q => absurd q (by rw [E40]; decide), fun _ => ⟨fun q => absurd (of_decide_eq_true q) (by omega), fun _ => ⟨un_init g, fun u _ _ x _ _ hU => ⟨fun hx => ?_, fun hx => ?_⟩⟩⟩⟩⟩⟩⟩
  · have hx := of_decide_eq_true hx
    have x0 := hU.1.1
    have hub := un_bnd hU
    have ex : w64 (x + 1) = x + 1 := w64_id (by omega) (by omega)
    have eu : w64 (u + 1) = u + 1 := w64_id (by omega) (by omega)
    have m1 : decide (0 ≤ opMu g (x + 1)) = true := decide_eq_true (by unfold opMu; omega)
    have m2 : decide (opMu g (x + 1) < opMu g x) = true := decide_eq_true (by unfold opMu; omega)
    rw [ex, eu]
    refine ⟨fr_init g x0, fun b y _ _ hF => ⟨fun hy => ?_, fun hy => ?_⟩⟩
    · have hy := of_decide_eq_true hy
      have y0 := hF.1.1
      have ey : w64 (y + 1) = y + 1 := w64_id (by omega) (by omega)
      have k1 : decide (0 ≤ unM x (y + 1)) = true := decide_eq_true (by unfold unM; omega)
      have k2 : decide (unM x (y + 1) < unM x y) = true := decide_eq_true (by unfold unM; omega)
      obtain ⟨f1, f2⟩ := fr_next hF hy
      rw [ey]
      exact ⟨⟨y0, by omega⟩, ⟨x0, hx⟩, fun q => ⟨f1 q, k1, k2⟩, fun q => ⟨f2 q, k1, k2⟩⟩
    · obtain ⟨f1, f2⟩ := un_next hU hx hF (of_decide_eq_false hy)
      exact ⟨fun q => ⟨f1 q, m1, m2⟩, fun q => ⟨f2 q, m1, m2⟩⟩
  have hxn : x.toNat = g.length := by have := hU.1; have := of_decide_eq_false hx; omega
  obtain ⟨cu, cn0, cn1⟩ := cnt_times hz
  have EU : u = (o.length : Int) * n := by rw [hU.2, hxn, ho, hn]; exact cu.symm
  have hub := un_bnd hU
  have hux := hU.1
  have EN : w64 ((o.length : Int) * n) = u := by rw [← EU]; exact w64_id (by omega) (by omega)
  have tp := tm_in (n := pick) h2.1 hol
  have ht : o.getD (Int.tmod pick (o.length : Int)).toNat (V3.mk 0 0 0) ∈ hofL g k := by rw [← ho]; exact getD_mem tp.1 tp.2 _
  refine ⟨by omega, ⟨tp.1, tp.2⟩, trivial, fun z55 w55 z57 w57 => ⟨trivial, fun z59 w59 z61 w61 z63 w63 => ⟨trivial, fun bo hbo z67 w67 => ?_⟩⟩⟩
  obtain ⟨a1, ha1, ea1⟩ := (hof_mem hz).1 ht
  obtain ⟨e1, e2, e3⟩ := turn_all hz ht (by rw [ea1]; exact rowOk a1 ha1)
  have E57 : z57 = 0 := w57.trans e1
  have E63 : z63 = 0 := w63.trans e1
  have E67 : z67 = 0 := w67.trans hz
  have E55 : z55 = z32 := by rw [w55, w32]; exact e2
  have E61 : z61 = z38 := by rw [w61, w38]; exact e3
  have EC : z38 = decide ((bo.length : Int) = (o.length : Int)) := by rw [w38, hbo, ho]; exact cen_both hz
  refine ⟨fun q => absurd q (by rw [E57]; decide), fun _ => ⟨fun q => absurd q (by rw [E63]; decide), fun _ => ⟨fun q => absurd q (by rw [E67]; decide), fun _ => ⟨fun q => absurd q (by rw [E55]; simp), fun _ => ⟨fun q => absurd q (by rw [E61]; simp), fun _ => ⟨fun q => absurd q (by rw [EN]; simp), fun _ => ⟨fun q => absurd q (by rw [← EC]; simp), fun _ => ?_⟩⟩⟩⟩⟩⟩⟩
  have ti := tm_in (n := i) h3.1 hpos
  have tj := tm_in (n := j) h4.1 hpos
  have hX : g.getD (Int.tmod i (g.length : Int)).toNat zerO ∈ g := getD_mem ti.1 ti.2 _
  have hY : g.getD (Int.tmod j (g.length : Int)).toNat zerO ∈ g := getD_mem tj.1 tj.2 _
  refine ⟨by omega, ⟨ti.1, ti.2⟩, by omega, ⟨tj.1, tj.2⟩, trivial, ?_⟩
  generalize g.getD (Int.tmod i (g.length : Int)).toNat zerO = X at hX ⊢
  generalize g.getD (Int.tmod j (g.length : Int)).toNat zerO = Y at hY ⊢
  intro p wp z78 w78
  refine ⟨trivial, fun kx wkx z82 w82 => ⟨trivial, fun q0 wq z86 w86 => ⟨trivial, fun xy wxy => ⟨trivial, fun r wr z92 w92 => ?_⟩⟩⟩⟩
  obtain ⟨x1, x2, x3⟩ := ht_ok (gF X hX) ok
  have ekx : kx = rowZ X.R k := wkx.trans x2
  subst ekx
  obtain ⟨y1, y2, y3⟩ := ht_ok (gF Y hY) (rowOk X hX)
  have exy : xy = mulO X Y := wxy.trans (prd_mul (gF X hX) (gF Y hY))
  subst exy
  obtain ⟨r1, r2, r3⟩ := ht_ok (gF _ (gM X hX Y hY)) ok
  have E78 : z78 = 0 := w78.trans x1
  have E82 : z82 = 0 := w82.trans x1
  have E86 : z86 = 0 := w86.trans y1
  have E92 : z92 = 0 := w92.trans r1
  have m24 : ∀ s : Int, 0 ≤ s % 24 ∧ s % 24 < 24 := fun s => ⟨Int.emod_nonneg _ (by decide), Int.emod_lt_of_pos _ (by decide)⟩
  have EP : amo (w64 (w64 (p + q0) - r)) 24 = 0 := by
    rw [wp, wq, wr, x3, y3, r3]
    exact phase_amo (m24 _) (m24 _) (m24 _) phase_add
  refine ⟨fun q => absurd q (by rw [E78]; decide), fun _ => ⟨fun q => absurd q (by rw [E82]; decide), fun _ => ⟨fun q => absurd q (by rw [E86]; decide), fun _ => ⟨fun q => absurd q (by rw [E92]; decide), fun _ => ⟨(by exact ⟨by decide, by decide⟩), fun z98 w98 => ⟨fun q => absurd q (by rw [w98, EP]; decide), fun _ => ⟨trivial, fun y wy z103 w103 => ?_⟩⟩⟩⟩⟩⟩⟩
  have fin := wi_fin a h C hgd (b := z32) (by rw [← hk]; exact w32)
  rw [← hk] at fin
  cases z32 with
  | true =>
    obtain ⟨s1, s2, s3, s4, s5⟩ := why_say hz w32.symm
    rw [← wy] at s2 s3 s4 s5
    have E103 : z103 = 0 := w103.trans s1
    refine ⟨fun q => absurd q (by rw [E103]; decide), fun _ => ⟨fun q => absurd q (by decide), fun _ => ⟨fun _ => ⟨trivial, fun q => absurd (of_decide_eq_true q) s5, fun _ => ⟨trivial, fun q => absurd q (by rw [s4]; simp), fun _ => fin⟩⟩, fun q => absurd q (by decide)⟩⟩⟩
  | false =>
    have E103 : z103 = 9 := w103.trans (why_not hz w32.symm)
    refine ⟨fun q => absurd q (by rw [E103]; decide), fun _ => ⟨fun _ => ⟨fun q => absurd q (by rw [E103]; decide), fun _ => ⟨fun q => absurd q (by decide), fun _ => fin⟩⟩, fun q => absurd q (by decide)⟩⟩
theorem s_WholeIndices : Sound Tryz.prog 3 C_WholeIndices :=
  sound_of_eq (env0_ok (.cons s_tawake.hid (.cons s_seeds.hid (.cons s_gClose.hid (.cons s_tsmall.hid (.cons s_aIs.hid (.cons s_hOf.hid (.cons s_hCount.hid (.cons s_aCentric.hid (.cons s_hBoth.hid (.cons s_hPhase.hid (.cons s_hTurned.hid (.cons s_tproduct.hid (.cons s_tamong.hid (.cons s_aWhy.hid (.cons s_tdot.hid (.cons s_tturned.hid (.cons s_signs.hid (.cons s_seeded.hid (.cons s_bGroup.hid (.cons s_bIndex.hid (.nil)))))))))))))))))))))) (fun x => T_WholeIndices x.1 x.2.1 x.2.2.1 x.2.2.2.1 x.2.2.2.2.1 x.2.2.2.2.2.1) r_WholeIndices fun x ok hp => p_WholeIndices x.1 x.2.1 x.2.2.1 x.2.2.2.1 x.2.2.2.2.1 x.2.2.2.2.2.1 ok.1 ok.2.1 ok.2.2.1 ok.2.2.2.1 ok.2.2.2.2.1 ok.2.2.2.2.2.1
end Go.Fx
