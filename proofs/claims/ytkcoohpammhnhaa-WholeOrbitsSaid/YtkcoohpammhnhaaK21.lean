/-
  Contracts: tawake, WholeOrbits.
-/
import Derived.Test.YtkcoohpammhnhaaK20
namespace Go.Fx
open Go Go.Proofs
set_option maxRecDepth 100000
set_option linter.unusedVariables false
set_option linter.unusedSimpArgs false
set_option linter.unusedSectionVars false
noncomputable def C_tawake : Contract := { args := [], res := [.bool], pre := fun _ => True, F := fun x => ((true : Bool), ()) }
def T_tawake  : Prop :=
  (True ∧
∀ z0 : List Op3,
(z0 = cloL ([(Op3.mk ((M3.mk (-1) 0 0 0 (-1) 0 0 0 (-1))) (V3.mk 0 0 0))]) →
∀ z2 : Int,
(z2 = cloE ([(Op3.mk ((M3.mk (-1) 0 0 0 (-1) 0 0 0 (-1))) (V3.mk 0 0 0))]) →
(((decide (z2 = 0)) = true →
 ((decide ((z0.length : Int) = 2)), ()) = (true, ())) ∧
((decide (z2 = 0)) = false →
(false, ()) = (true, ()))))))
theorem r_tawake (x : HL C_tawake.args) : runs (env0 [(54, C_gClose.hid)] [] []) 400 28 C_tawake x = T_tawake  := by kernel_rfl
theorem p_tawake   : T_tawake  := by
  unfold T_tawake
  repeat' (first
    | exact trivial
    | rfl
    | (refine And.intro ?_ ?_)
    | (intro z; intro hz; subst hz)
    | (intro h; first | exact absurd h (by decide +kernel) | skip)
    | decide +kernel)
theorem s_tawake : Sound Try.prog 28 C_tawake :=
  sound_of_eq (env0_ok (.cons s_gClose.hid (.nil))) (fun x => T_tawake ) r_tawake fun x ok hp => p_tawake  
noncomputable def C_WholeOrbits : Contract := { args := [.list .seed, .int .u8, .agg .v16, .int .u8], res := [.bool], pre := fun _ => True, F := fun x => ((true : Bool), ()) }
def T_WholeOrbits (l : List Sd) (k : Int) (x : V3) (pick : Int) : Prop :=
  (True ∧
∀ z4 : Bool,
(z4 = true →
(((!z4) = true →
 (false, ()) = (true, ())) ∧
((!z4) = false →
(True ∧
∀ z7 : List Op3,
(z7 = sedL l →
(True ∧
∀ z9 : List Op3,
(z9 = cloL z7 →
∀ z11 : Int,
(z11 = cloE z7 →
(((!(decide (z11 = 0))) = true →
 (true, ()) = (true, ())) ∧
((!(decide (z11 = 0))) = false →
(nonE z9 ∧
(True ∧
∀ z14 : Int,
(z14 = parI k →
(True ∧
∀ z16 : Pt,
(z16 = plaP z14 x →
∀ z18 : Int,
(z18 = plaE z14 →
(True ∧
∀ z20 : List Pt,
(z20 = ofL z9 z16 →
∀ z22 : Int,
(z22 = ocE z9 [z16] →
(True ∧
∀ z24 : List Int,
(z24 = siL z9 z16 →
∀ z26 : Int,
(z26 = ocE z9 [z16] →
(((!(decide (z18 = 0))) = true →
 (false, ()) = (true, ())) ∧
((!(decide (z18 = 0))) = false →
(((!(decide (z22 = 0))) = true →
 (false, ()) = (true, ())) ∧
((!(decide (z22 = 0))) = false →
(((!(decide (z26 = 0))) = true →
 (false, ()) = (true, ())) ∧
((!(decide (z26 = 0))) = false →
(((decide ((z20.length : Int) = 0)) = true →
 (false, ()) = (true, ())) ∧
((decide ((z20.length : Int) = 0)) = false →
(((decide ((z24.length : Int) = 0)) = true →
 (false, ()) = (true, ())) ∧
((decide ((z24.length : Int) = 0)) = false →
(((!(decide ((w64 (((z20.length : Int) * (z24.length : Int)))) = (z9.length : Int)))) = true →
 (false, ()) = (true, ())) ∧
((!(decide ((w64 (((z20.length : Int) * (z24.length : Int)))) = (z9.length : Int)))) = false →
(hiP z20 z16 false 0 ∧
∀ z34 : Bool,
∀ z35 : Int,
((decide ((-9223372036854775808) ≤ z35)) = true →
((decide (z35 ≤ 9223372036854775807)) = true →
(hiP z20 z16 z34 z35 →
(((decide (z35 < (z20.length : Int))) = true →
 (inB z20 z35 ∧
 ((((decide (((z20.getD (z35).toNat (Pt.mk 0 (V3.mk 0 0 0)))).M = z16.M)) && ((decide ((((z20.getD (z35).toNat (Pt.mk 0 (V3.mk 0 0 0)))).X).x = z16.X.x)) && ((decide ((((z20.getD (z35).toNat (Pt.mk 0 (V3.mk 0 0 0)))).X).y = z16.X.y)) && ((decide ((((z20.getD (z35).toNat (Pt.mk 0 (V3.mk 0 0 0)))).X).z = z16.X.z)) && true)))) = true →
  (((decide (0 < z35)) = true →
   (inB z20 ((w64 (z35 - 1))) ∧
   (inB z20 z35 ∧
   (True ∧
   (((!(decide (ordXE (((z20.getD ((w64 (z35 - 1))).toNat (Pt.mk 0 (V3.mk 0 0 0))))) (((z20.getD (z35).toNat (Pt.mk 0 (V3.mk 0 0 0))))) = 0))) = true →
    (false, ()) = (true, ())) ∧
   ((!(decide (ordXE (((z20.getD ((w64 (z35 - 1))).toNat (Pt.mk 0 (V3.mk 0 0 0))))) (((z20.getD (z35).toNat (Pt.mk 0 (V3.mk 0 0 0))))) = 0))) = false →
   (((!(decide (ordX (((z20.getD ((w64 (z35 - 1))).toNat (Pt.mk 0 (V3.mk 0 0 0))))) (((z20.getD (z35).toNat (Pt.mk 0 (V3.mk 0 0 0))))) = (-1)))) = true →
    (false, ()) = (true, ())) ∧
   ((!(decide (ordX (((z20.getD ((w64 (z35 - 1))).toNat (Pt.mk 0 (V3.mk 0 0 0))))) (((z20.getD (z35).toNat (Pt.mk 0 (V3.mk 0 0 0))))) = (-1)))) = false →
   (hiP z20 z16 true ((w64 (z35 + 1))) ∧
   ((decide (0 ≤ lnX z20 ((w64 (z35 + 1))))) = true ∧
   (decide (lnX z20 ((w64 (z35 + 1))) < lnX z20 z35)) = true)))))))))) ∧
  ((decide (0 < z35)) = false →
  (hiP z20 z16 true ((w64 (z35 + 1))) ∧
  ((decide (0 ≤ lnX z20 ((w64 (z35 + 1))))) = true ∧
  (decide (lnX z20 ((w64 (z35 + 1))) < lnX z20 z35)) = true))))) ∧
 (((decide (((z20.getD (z35).toNat (Pt.mk 0 (V3.mk 0 0 0)))).M = z16.M)) && ((decide ((((z20.getD (z35).toNat (Pt.mk 0 (V3.mk 0 0 0)))).X).x = z16.X.x)) && ((decide ((((z20.getD (z35).toNat (Pt.mk 0 (V3.mk 0 0 0)))).X).y = z16.X.y)) && ((decide ((((z20.getD (z35).toNat (Pt.mk 0 (V3.mk 0 0 0)))).X).z = z16.X.z)) && true)))) = false →
 (((decide (0 < z35)) = true →
  (inB z20 ((w64 (z35 - 1))) ∧
  (inB z20 z35 ∧
  (True ∧
  (((!(decide (ordXE (((z20.getD ((w64 (z35 - 1))).toNat (Pt.mk 0 (V3.mk 0 0 0))))) (((z20.getD (z35).toNat (Pt.mk 0 (V3.mk 0 0 0))))) = 0))) = true →
   (false, ()) = (true, ())) ∧
  ((!(decide (ordXE (((z20.getD ((w64 (z35 - 1))).toNat (Pt.mk 0 (V3.mk 0 0 0))))) (((z20.getD (z35).toNat (Pt.mk 0 (V3.mk 0 0 0))))) = 0))) = false →
  (((!(decide (ordX (((z20.getD ((w64 (z35 - 1))).toNat (Pt.mk 0 (V3.mk 0 0 0))))) (((z20.getD (z35).toNat (Pt.mk 0 (V3.mk 0 0 0))))) = (-1)))) = true →
   (false, ()) = (true, ())) ∧
  ((!(decide (ordX (((z20.getD ((w64 (z35 - 1))).toNat (Pt.mk 0 (V3.mk 0 0 0))))) (((z20.getD (z35).toNat (Pt.mk 0 (V3.mk 0 0 0))))) = (-1)))) = false →
  (hiP z20 z16 z34 ((w64 (z35 + 1))) ∧
  ((decide (0 ≤ lnX z20 ((w64 (z35 + 1))))) = true ∧
  (decide (lnX z20 ((w64 (z35 + 1))) < lnX z20 z35)) = true)))))))))) ∧
 ((decide (0 < z35)) = false →
 (hiP z20 z16 z34 ((w64 (z35 + 1))) ∧
 ((decide (0 ≤ lnX z20 ((w64 (z35 + 1))))) = true ∧
 (decide (lnX z20 ((w64 (z35 + 1))) < lnX z20 z35)) = true)))))))) ∧
((decide (z35 < (z20.length : Int))) = false →
(styP z9 z24 [] 0 ∧
∀ z40 : List Op3,
∀ z41 : Int,
((decide ((-9223372036854775808) ≤ z41)) = true →
((decide (z41 ≤ 9223372036854775807)) = true →
(styP z9 z24 z40 z41 →
(lfit 96 z40 →
(((decide (z41 < (z24.length : Int))) = true →
 (inB z24 z41 ∧
 (((decide ((z24.getD (z41).toNat 0) < 0)) = true →
  (false, ()) = (true, ())) ∧
 ((decide ((z24.getD (z41).toNat 0) < 0)) = false →
 (inB z24 z41 ∧
 (((decide ((z9.length : Int) ≤ (z24.getD (z41).toNat 0))) = true →
  (false, ()) = (true, ())) ∧
 ((decide ((z9.length : Int) ≤ (z24.getD (z41).toNat 0))) = false →
 (inB z24 z41 ∧
 (inB z9 ((z24.getD (z41).toNat 0)) ∧
 (True ∧
 (((!(decide (appE (((z9.getD ((z24.getD (z41).toNat 0)).toNat zerO))) z16 = 0))) = true →
  (false, ()) = (true, ())) ∧
 ((!(decide (appE (((z9.getD ((z24.getD (z41).toNat 0)).toNat zerO))) z16 = 0))) = false →
 (((!((decide ((appP (((z9.getD ((z24.getD (z41).toNat 0)).toNat zerO))) z16).M = z16.M)) && ((decide (((appP (((z9.getD ((z24.getD (z41).toNat 0)).toNat zerO))) z16).X).x = z16.X.x)) && ((decide (((appP (((z9.getD ((z24.getD (z41).toNat 0)).toNat zerO))) z16).X).y = z16.X.y)) && ((decide (((appP (((z9.getD ((z24.getD (z41).toNat 0)).toNat zerO))) z16).X).z = z16.X.z)) && true))))) = true →
  (false, ()) = (true, ())) ∧
 ((!((decide ((appP (((z9.getD ((z24.getD (z41).toNat 0)).toNat zerO))) z16).M = z16.M)) && ((decide (((appP (((z9.getD ((z24.getD (z41).toNat 0)).toNat zerO))) z16).X).x = z16.X.x)) && ((decide (((appP (((z9.getD ((z24.getD (z41).toNat 0)).toNat zerO))) z16).X).y = z16.X.y)) && ((decide (((appP (((z9.getD ((z24.getD (z41).toNat 0)).toNat zerO))) z16).X).z = z16.X.z)) && true))))) = false →
 (inB z24 z41 ∧
 (inB z9 ((z24.getD (z41).toNat 0)) ∧
 (lfit 96 (lapp z40 ([((z9.getD ((z24.getD (z41).toNat 0)).toNat zerO))])) ∧
 (styP z9 z24 (lapp z40 ([((z9.getD ((z24.getD (z41).toNat 0)).toNat zerO))])) ((w64 (z41 + 1))) ∧
 ((decide (0 ≤ inMu z24 ((w64 (z41 + 1))))) = true ∧
 (decide (inMu z24 ((w64 (z41 + 1))) < inMu z24 z41)) = true))))))))))))))))))) ∧
((decide (z41 < (z24.length : Int))) = false →
(((z20.length : Int) ≠ 0) ∧
(inB z20 ((Int.tmod pick (z20.length : Int))) ∧
(True ∧
∀ z47 : List Pt,
(z47 = ofL z9 (((z20.getD ((Int.tmod pick (z20.length : Int))).toNat (Pt.mk 0 (V3.mk 0 0 0))))) →
∀ z49 : Int,
(z49 = ocE z9 ([((z20.getD ((Int.tmod pick (z20.length : Int))).toNat (Pt.mk 0 (V3.mk 0 0 0))))]) →
(True ∧
∀ z51 : Pt,
(z51 = lsP z9 (((z20.getD ((Int.tmod pick (z20.length : Int))).toNat (Pt.mk 0 (V3.mk 0 0 0))))) →
∀ z53 : Int,
(z53 = lsI z9 (((z20.getD ((Int.tmod pick (z20.length : Int))).toNat (Pt.mk 0 (V3.mk 0 0 0))))) →
∀ z55 : Int,
(z55 = ocE z9 ([((z20.getD ((Int.tmod pick (z20.length : Int))).toNat (Pt.mk 0 (V3.mk 0 0 0))))]) →
(True ∧
∀ z57 : Bool,
(z57 = saB z9 z16 (((z20.getD ((Int.tmod pick (z20.length : Int))).toNat (Pt.mk 0 (V3.mk 0 0 0))))) →
∀ z59 : Int,
(z59 = saE z9 z16 (((z20.getD ((Int.tmod pick (z20.length : Int))).toNat (Pt.mk 0 (V3.mk 0 0 0))))) →
(((!(decide (z49 = 0))) = true →
 (false, ()) = (true, ())) ∧
((!(decide (z49 = 0))) = false →
(((!(decide (z55 = 0))) = true →
 (false, ()) = (true, ())) ∧
((!(decide (z55 = 0))) = false →
(((!(decide (z59 = 0))) = true →
 (false, ()) = (true, ())) ∧
((!(decide (z59 = 0))) = false →
(((!z57) = true →
 (false, ()) = (true, ())) ∧
((!z57) = false →
(inB z20 0 ∧
(((!((decide (z51.M = ((z20.getD 0 (Pt.mk 0 (V3.mk 0 0 0)))).M)) && ((decide (z51.X.x = (((z20.getD 0 (Pt.mk 0 (V3.mk 0 0 0)))).X).x)) && ((decide (z51.X.y = (((z20.getD 0 (Pt.mk 0 (V3.mk 0 0 0)))).X).y)) && ((decide (z51.X.z = (((z20.getD 0 (Pt.mk 0 (V3.mk 0 0 0)))).X).z)) && true))))) = true →
 (false, ()) = (true, ())) ∧
((!((decide (z51.M = ((z20.getD 0 (Pt.mk 0 (V3.mk 0 0 0)))).M)) && ((decide (z51.X.x = (((z20.getD 0 (Pt.mk 0 (V3.mk 0 0 0)))).X).x)) && ((decide (z51.X.y = (((z20.getD 0 (Pt.mk 0 (V3.mk 0 0 0)))).X).y)) && ((decide (z51.X.z = (((z20.getD 0 (Pt.mk 0 (V3.mk 0 0 0)))).X).z)) && true))))) = false →
(((decide (z53 < 0)) = true →
 (false, ()) = (true, ())) ∧
((decide (z53 < 0)) = false →
(((decide ((z9.length : Int) ≤ z53)) = true →
 (false, ()) = (true, ())) ∧
((decide ((z9.length : Int) ≤ z53)) = false →
(((!(decide ((z47.length : Int) = (z20.length : Int)))) = true →
 (false, ()) = (true, ())) ∧
((!(decide ((z47.length : Int) = (z20.length : Int)))) = false →
(rgP (z20.length : Int) 0 ∧
∀ z69 : Int,
((decide ((-9223372036854775808) ≤ z69)) = true →
((decide (z69 ≤ 9223372036854775807)) = true →
(rgP (z20.length : Int) z69 →
(((decide (z69 < (z20.length : Int))) = true →
 (inB z47 z69 ∧
 (inB z20 z69 ∧
 (((!((decide (((z47.getD (z69).toNat (Pt.mk 0 (V3.mk 0 0 0)))).M = ((z20.getD (z69).toNat (Pt.mk 0 (V3.mk 0 0 0)))).M)) && ((decide ((((z47.getD (z69).toNat (Pt.mk 0 (V3.mk 0 0 0)))).X).x = (((z20.getD (z69).toNat (Pt.mk 0 (V3.mk 0 0 0)))).X).x)) && ((decide ((((z47.getD (z69).toNat (Pt.mk 0 (V3.mk 0 0 0)))).X).y = (((z20.getD (z69).toNat (Pt.mk 0 (V3.mk 0 0 0)))).X).y)) && ((decide ((((z47.getD (z69).toNat (Pt.mk 0 (V3.mk 0 0 0)))).X).z = (((z20.getD (z69).toNat (Pt.mk 0 (V3.mk 0 0 0)))).X).z)) && true))))) = true →
  (false, ()) = (true, ())) ∧
 ((!((decide (((z47.getD (z69).toNat (Pt.mk 0 (V3.mk 0 0 0)))).M = ((z20.getD (z69).toNat (Pt.mk 0 (V3.mk 0 0 0)))).M)) && ((decide ((((z47.getD (z69).toNat (Pt.mk 0 (V3.mk 0 0 0)))).X).x = (((z20.getD (z69).toNat (Pt.mk 0 (V3.mk 0 0 0)))).X).x)) && ((decide ((((z47.getD (z69).toNat (Pt.mk 0 (V3.mk 0 0 0)))).X).y = (((z20.getD (z69).toNat (Pt.mk 0 (V3.mk 0 0 0)))).X).y)) && ((decide ((((z47.getD (z69).toNat (Pt.mk 0 (V3.mk 0 0 0)))).X).z = (((z20.getD (z69).toNat (Pt.mk 0 (V3.mk 0 0 0)))).X).z)) && true))))) = false →
 (rgP (z20.length : Int) ((w64 (z69 + 1))) ∧
 ((decide (0 ≤ lnX z20 ((w64 (z69 + 1))))) = true ∧
 (decide (lnX z20 ((w64 (z69 + 1))) < lnX z20 z69)) = true))))))) ∧
((decide (z69 < (z20.length : Int))) = false →
(inB z9 z53 ∧
(True ∧
((z34 = true →
 (((decide (appE (((z9.getD (z53).toNat zerO))) (((z20.getD ((Int.tmod pick (z20.length : Int))).toNat (Pt.mk 0 (V3.mk 0 0 0))))) = 0)) = true →
  ((((decide ((appP (((z9.getD (z53).toNat zerO))) (((z20.getD ((Int.tmod pick (z20.length : Int))).toNat (Pt.mk 0 (V3.mk 0 0 0)))))).M = z51.M)) && ((decide (((appP (((z9.getD (z53).toNat zerO))) (((z20.getD ((Int.tmod pick (z20.length : Int))).toNat (Pt.mk 0 (V3.mk 0 0 0)))))).X).x = z51.X.x)) && ((decide (((appP (((z9.getD (z53).toNat zerO))) (((z20.getD ((Int.tmod pick (z20.length : Int))).toNat (Pt.mk 0 (V3.mk 0 0 0)))))).X).y = z51.X.y)) && ((decide (((appP (((z9.getD (z53).toNat zerO))) (((z20.getD ((Int.tmod pick (z20.length : Int))).toNat (Pt.mk 0 (V3.mk 0 0 0)))))).X).z = z51.X.z)) && true)))) = true →
   (True ∧
   ∀ z77 : Int,
   (z77 = chkE z40 →
   ((decide (z77 = 0)), ()) = (true, ())))) ∧
  (((decide ((appP (((z9.getD (z53).toNat zerO))) (((z20.getD ((Int.tmod pick (z20.length : Int))).toNat (Pt.mk 0 (V3.mk 0 0 0)))))).M = z51.M)) && ((decide (((appP (((z9.getD (z53).toNat zerO))) (((z20.getD ((Int.tmod pick (z20.length : Int))).toNat (Pt.mk 0 (V3.mk 0 0 0)))))).X).x = z51.X.x)) && ((decide (((appP (((z9.getD (z53).toNat zerO))) (((z20.getD ((Int.tmod pick (z20.length : Int))).toNat (Pt.mk 0 (V3.mk 0 0 0)))))).X).y = z51.X.y)) && ((decide (((appP (((z9.getD (z53).toNat zerO))) (((z20.getD ((Int.tmod pick (z20.length : Int))).toNat (Pt.mk 0 (V3.mk 0 0 0)))))).X).z = z51.X.z)) && true)))) = false →
  (false, ()) = (true, ())))) ∧
 ((decide (appE (((z9.getD (z53).toNat zerO))) (((z20.getD ((Int.tmod pick (z20.length : Int))).toNat (Pt.mk 0 (V3.mk 0 0 0))))) = 0)) = false →
 (false, ()) = (true, ())))) ∧
(z34 = false →
(false, ()) = (true, ()))))))))))))))))))))))))))))))))))))))))))))))))))))))))))))))))))))))))))))))))))))))))
theorem r_WholeOrbits (x : HL C_WholeOrbits.args) : runs (env0 [(28, C_tawake.hid), (55, C_seeds.hid), (54, C_gClose.hid), (30, C_tparts.hid), (31, C_fPlace.hid), (11, C_oOf.hid), (15, C_oSite.hid), (27, C_fOrder.hid), (26, C_opApply.hid), (18, C_oLeast.hid), (20, C_oSame.hid), (24, C_gCheck.hid)] [(9, 14, { fix := [(.tmp 13, .list .pt), (.cell 11, .agg .pt)], vars := [(.tmp 17, .bool), (.tmp 18, .int .i64)], inv := fun y v => hiP y.1 y.2.1 v.1 v.2.1, mu := fun y v => lnX y.1 v.2.1 }), (9, 24, { fix := [(.tmp 9, .list .op), (.tmp 15, .list .int)], vars := [(.tmp 21, .list .op), (.tmp 22, .int .i64)], inv := fun y v => styP y.1 y.2.1 v.1 v.2.1, mu := fun y v => inMu y.2.1 v.2.1 }), (9, 39, { fix := [(.tmp 13, .list .pt)], vars := [(.tmp 33, .int .i64)], inv := fun y v => rgP (lenI y.1) v.1, mu := fun y v => lnX y.1 v.1 })] []) 400 9 C_WholeOrbits x = T_WholeOrbits x.1 x.2.1 x.2.2.1 x.2.2.2.1 := by kernel_rfl
theorem p_WholeOrbits (l : List Sd) (k : Int) (x : V3) (pick : Int) (h0 : (Sh.list .seed).okA l) (h1 : (Sh.int .u8).okA k) (h2 : (Sh.agg .v16).okA x) (h3 : (Sh.int .u8).okA pick) : T_WholeOrbits l k x pick := by
  unfold T_WholeOrbits
  simp only [eqPc]
  refine ⟨trivial, fun z hz => ⟨fun h => absurd (hz ▸ h) (by decide), fun _ => ⟨trivial, fun li hli => ⟨trivial, fun g hg e he => ⟨fun _ => by trivial, fun hq => ?_⟩⟩⟩⟩⟩
  have hce : cloE li = 0 := by rw [← he]; simpa using hq
  have hc : chkE g = 0 := by rw [hg]; exact clo_chk hce
  refine ⟨fun h => (by have := (chk_grp hc).2.2.1; rw [h] at this; cases this), trivial, fun m hm => ⟨trivial, fun p hp f hf => ⟨trivial, fun o ho e1 he1 => ⟨trivial, fun s hs e2 he2 => ?_⟩⟩⟩⟩
  have hr : rgtM m = true := by rw [hm]; exact par_rgt k
  have hfp : frmP p = true := by rw [hp]; exact (pla_frm hr x).1
  have f0 : f = 0 := by rw [hf]; exact (pla_frm hr x).2
  have hz0 : ocE g [p] = 0 := oc_of hfp hc
  subst ho hs
  have hl2 : g.length ≤ 192 := (oc_P hz0).2.2
  have lp := of_len hz0
  have lpp := (of_head hz0).2
  have ls := siL_len g p
  have lss := si_pos hz0
  have ht := of_times hz0
  have hprod : w64 (((ofL g p).length : Int) * ((siL g p).length : Int)) = (g.length : Int) := by
    rw [← Int.natCast_mul, ← ht]; exact w64_id (by omega) (by omega)
  have hbnd : ∀ k : Int, 0 ≤ k → k < 192 → w64 (k + 1) = k + 1 := fun k k0 hk => w64_id (by omega) (by omega)
  refine ⟨fun h => absurd h (by rw [f0]; decide), fun _ => ⟨fun h => absurd h (by rw [he1, hz0]; decide), fun _ => ⟨fun h => absurd h (by rw [he2, hz0]; decide), fun _ => ⟨fun h => absurd (of_decide_eq_true h) (by omega), fun _ => ⟨fun h => absurd (of_decide_eq_true h) (by omega), fun _ => ⟨fun h => absurd h (by rw [hprod]; simp), fun _ => ⟨hi_init _ _, fun b i _ _ hI => ⟨fun hi => ?_, fun hi => ⟨sty_init g _, fun mm k2 _ _ hS hfit => ⟨fun hk2 => ?_, fun hk2 => ?_⟩⟩⟩⟩⟩⟩⟩⟩⟩⟩
  · have hi := of_decide_eq_true hi
    have i0 := hI.1
    obtain ⟨n1, n2⟩ := hi_next hI hi
    have m1 : decide (0 ≤ lnX (ofL g p) (i + 1)) = true := decide_eq_true (by unfold lnX; omega)
    have m2 : decide (lnX (ofL g p) (i + 1) < lnX (ofL g p) i) = true := decide_eq_true (by unfold lnX; omega)
    rw [hbnd i i0 (by omega)]
    have ord : 0 < i → (inB (ofL g p) (w64 (i - 1)) ∧ inB (ofL g p) i) ∧ ordXE ((ofL g p).getD (w64 (i - 1)).toNat (Pt.mk 0 (V3.mk 0 0 0))) ((ofL g p).getD i.toNat (Pt.mk 0 (V3.mk 0 0 0))) = 0 ∧ ordX ((ofL g p).getD (w64 (i - 1)).toNat (Pt.mk 0 (V3.mk 0 0 0))) ((ofL g p).getD i.toNat (Pt.mk 0 (V3.mk 0 0 0))) = -1 := fun c => by
      rw [w64_id (x := i - 1) (by omega) (by omega)]
      have hok1 := im_ok hz0 _ ((of_mem hz0).1 (g_atX (l := ofL g p) (k := (i - 1).toNat) (by omega)))
      have hok2 := im_ok hz0 _ ((of_mem hz0).1 (g_atX (l := ofL g p) (k := i.toNat) (by omega)))
      have hE : ordXE ((ofL g p).getD (i - 1).toNat zerP) ((ofL g p).getD i.toNat zerP) = 0 := by unfold ordXE; rw [if_pos ⟨hok1.1, hok2.1⟩]
      exact ⟨⟨⟨by omega, by omega⟩, ⟨i0, hi⟩⟩, hE, ordX_m1 (of_step hz0 c (by omega))⟩
    refine ⟨⟨i0, hi⟩, fun c => ⟨fun d => ?_, fun _ => ⟨n1 (of_decide_eq_true c), m1, m2⟩⟩, fun c => ⟨fun d => ?_, fun _ => ⟨n2 (of_decide_eq_false c), m1, m2⟩⟩⟩
    · obtain ⟨⟨o1, o2⟩, o3, o4⟩ := ord (of_decide_eq_true d)
      rw [o3, o4]
      exact ⟨o1, o2, trivial, fun h => absurd h (by decide), fun _ => ⟨fun h => absurd h (by decide), fun _ => ⟨n1 (of_decide_eq_true c), m1, m2⟩⟩⟩
    · obtain ⟨⟨o1, o2⟩, o3, o4⟩ := ord (of_decide_eq_true d)
      rw [o3, o4]
      exact ⟨o1, o2, trivial, fun h => absurd h (by decide), fun _ => ⟨fun h => absurd h (by decide), fun _ => ⟨n2 (of_decide_eq_false c), m1, m2⟩⟩⟩
  · have hk2 := of_decide_eq_true hk2
    have k0 := hS.1
    have hmem := getD_mem k0 hk2 (0 : Int)
    have hin := si_in hz0 hmem
    have hat := si_at hz0 hmem
    have hml : mm.length = k2.toNat := by rw [hS.2.2]; unfold mapsL; rw [List.length_map, List.length_take]; omega
    have hgo := getD_mem hin.1 hin.2 zerO
    rw [hbnd k2 k0 (by omega), hat, (app_eq hz0 hgo).2]
    refine ⟨⟨k0, hk2⟩, fun h => absurd (of_decide_eq_true h) (by have := hin.1; omega), fun _ => ⟨⟨k0, hk2⟩, fun h => absurd (of_decide_eq_true h) (by have := hin.2; omega), fun _ => ⟨⟨k0, hk2⟩, hin, trivial, fun h => absurd h (by decide), fun _ => ⟨fun h => absurd h (by simp), fun _ => ⟨⟨k0, hk2⟩, hin, ?_, sty_next hS hk2, decide_eq_true (by unfold inMu; omega), decide_eq_true (by unfold inMu; omega)⟩⟩⟩⟩⟩
    show (mm ++ [_]).length * 96 ≤ 140737488355328
    rw [List.length_append]; simp only [List.length_singleton]; omega
  · have hmm : mm = mapsL g (siL g p) := by rw [hS.2.2, take_end (of_decide_eq_false hk2)]
    have hb : b = true := by
      rw [hi_end hI (of_decide_eq_false hi)]
      exact decide_eq_true ((of_mem hz0).2 (im_self hz0))
    have hpk : 0 ≤ pick := h3.1
    have hj : inB (ofL g p) (Int.tmod pick ((ofL g p).length : Int)) := ⟨Int.tmod_nonneg _ hpk, Int.tmod_lt_of_pos _ (by omega)⟩
    generalize Int.tmod pick ((ofL g p).length : Int) = j at hj ⊢
    have hqm := g_atX (l := ofL g p) (k := j.toNat) (by have := hj.1; have := hj.2; omega)
    rw [show (ofL g p).getD j.toNat (Pt.mk 0 (V3.mk 0 0 0)) = (ofL g p).getD j.toNat zerP from rfl]
    generalize (ofL g p).getD j.toNat zerP = q at hqm ⊢
    obtain ⟨w1, w2, w3, w4, w5, w6, w7, w8⟩ := wo_q hz0 hqm
    refine ⟨by omega, hj, trivial, fun o2 ho2 e5 he5 => ⟨trivial, fun a ha t ht e6 he6 => ⟨trivial, fun on hon e7 he7 => ?_⟩⟩⟩
    rw [w1] at he5 he6
    rw [w2] at ho2
    rw [w3] at ha
    rw [w4] at he7
    rw [w5] at hon
    subst ho2 ha ht hon he5 he6 he7
    rw [w7, w8]
    refine ⟨fun h => absurd h (by decide), fun _ => ⟨fun h => absurd h (by decide), fun _ => ⟨fun h => absurd h (by decide), fun _ => ⟨fun h => absurd h (by decide), fun _ => ⟨⟨Int.le_refl _, by omega⟩, fun h => absurd h ?_, fun _ => ⟨fun h => absurd (of_decide_eq_true h) (by have := w6.1; omega), fun _ => ⟨fun h => absurd (of_decide_eq_true h) (by have := w6.2; omega), fun _ => ⟨fun h => absurd h (by simp), fun _ => ⟨rg_init _, fun j2 _ _ hJ => ⟨fun hj2 => ?_, fun _ => ⟨w6, trivial, fun _ => ⟨fun _ => ⟨fun _ => ⟨trivial, fun e8 he8 => ?_⟩, fun h => absurd h (by simp)⟩, fun h => absurd h (by decide)⟩, fun h => absurd h (by rw [hb]; decide)⟩⟩⟩⟩⟩⟩⟩⟩⟩⟩⟩
    · rw [show (ofL g p).getD 0 (Pt.mk 0 (V3.mk 0 0 0)) = lsP g p from (of_head hz0).1]; simp
    · have hj2 := of_decide_eq_true hj2
      have j0 := hJ.1
      rw [hbnd j2 j0 (by omega)]
      exact ⟨⟨j0, hj2⟩, ⟨j0, hj2⟩, fun h => absurd h (by simp), fun _ => ⟨⟨by omega, by omega⟩, decide_eq_true (by unfold lnX; omega), decide_eq_true (by unfold lnX; omega)⟩⟩
    · rw [he8, hmm, si_chk hz0]; rfl
theorem s_WholeOrbits : Sound Try.prog 9 C_WholeOrbits :=
  sound_of_eq (env0_ok (.cons s_tawake.hid (.cons s_seeds.hid (.cons s_gClose.hid (.cons s_tparts.hid (.cons s_fPlace.hid (.cons s_oOf.hid (.cons s_oSite.hid (.cons s_fOrder.hid (.cons s_opApply.hid (.cons s_oLeast.hid (.cons s_oSame.hid (.cons s_gCheck.hid (.nil)))))))))))))) (fun x => T_WholeOrbits x.1 x.2.1 x.2.2.1 x.2.2.2.1) r_WholeOrbits fun x ok hp => p_WholeOrbits x.1 x.2.1 x.2.2.1 x.2.2.2.1 ok.1 ok.2.1 ok.2.2.1 ok.2.2.2.1
end Go.Fx
