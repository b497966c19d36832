/-
  Contracts: oOf.
-/
import Derived.Test.YtolbgdfbdlddaaaK23
import Derived.Test.YtolbgdfbdlddaaaKm
namespace Go.Fx
open Go Go.Proofs
set_option maxRecDepth 100000
set_option linter.unusedVariables false
set_option linter.unusedSimpArgs false
set_option linter.unusedSectionVars false
noncomputable def C_oOf : Contract := { args := [.list .op, .agg .pt], res := [.list .pt, .int .i64], pre := fun _ => True, F := fun x => ((ofL x.1 x.2.1 : List Pt), (ocE x.1 [x.2.1] : Int), ()) }
def T_oOf (g : List Op3) (p : Pt) : Prop :=
  (True ∧
∀ z2 : Int,
(z2 = ocE g [p] →
(((!(decide (z2 = 0))) = true →
 ([], (z2, ())) = (ofL g p, (ocE g [p], ()))) ∧
((!(decide (z2 = 0))) = false →
(True ∧
∀ z5 : List Pt,
(z5 = imP g p →
(srtP z5 ∧
(((decide (((srtX z5).length : Int) < 2)) = true →
 (srtX z5, (0, ())) = (ofL g p, (ocE g [p], ()))) ∧
((decide (((srtX z5).length : Int) < 2)) = false →
(cpOX (srtX z5) 1 ∧
∀ z8 : Int,
((decide ((-9223372036854775808) ≤ z8)) = true →
((decide (z8 ≤ 9223372036854775807)) = true →
(cpOX (srtX z5) z8 →
(((decide (z8 < ((srtX z5).length : Int))) = true →
 (inB (srtX z5) z8 ∧
 (inB (srtX z5) ((w64 (z8 - 1))) ∧
 ((((decide ((((srtX z5).getD (z8).toNat (Pt.mk 0 (V3.mk 0 0 0)))).M = (((srtX z5).getD ((w64 (z8 - 1))).toNat (Pt.mk 0 (V3.mk 0 0 0)))).M)) && ((decide (((((srtX z5).getD (z8).toNat (Pt.mk 0 (V3.mk 0 0 0)))).X).x = ((((srtX z5).getD ((w64 (z8 - 1))).toNat (Pt.mk 0 (V3.mk 0 0 0)))).X).x)) && ((decide (((((srtX z5).getD (z8).toNat (Pt.mk 0 (V3.mk 0 0 0)))).X).y = ((((srtX z5).getD ((w64 (z8 - 1))).toNat (Pt.mk 0 (V3.mk 0 0 0)))).X).y)) && ((decide (((((srtX z5).getD (z8).toNat (Pt.mk 0 (V3.mk 0 0 0)))).X).z = ((((srtX z5).getD ((w64 (z8 - 1))).toNat (Pt.mk 0 (V3.mk 0 0 0)))).X).z)) && true)))) = true →
  ((leP 0 z8 ∧
   (leP z8 (((srtX z5).length : Int)) ∧
   leP (((srtX z5).length : Int)) (((srtX z5).length : Int)))) ∧
  (cpIX (srtX z5) z8 (srtX z5) z8 1 ∧
  ∀ z14 : List Pt,
  ∀ z15 : Int,
  ((decide ((-9223372036854775808) ≤ z15)) = true →
  ((decide (z15 ≤ 9223372036854775807)) = true →
  ∀ z18 : Int,
  ((decide ((-9223372036854775808) ≤ z18)) = true →
  ((decide (z18 ≤ 9223372036854775807)) = true →
  (cpIX (srtX z5) z8 z14 z15 z18 →
  (eqP (z14.length : Int) (((srtX z5).length : Int)) →
  (((decide (z18 < (((srtX z5).length : Int) - z8))) = true →
   (inR z18 ((((srtX z5).length : Int) - z8)) ∧
   (inR ((w64 (z18 - 1))) ((((srtX z5).length : Int) - z8)) ∧
   (((!((decide (((z14.getD ((z8 + z18)).toNat (Pt.mk 0 (V3.mk 0 0 0)))).M = ((z14.getD ((z8 + (w64 (z18 - 1)))).toNat (Pt.mk 0 (V3.mk 0 0 0)))).M)) && ((decide ((((z14.getD ((z8 + z18)).toNat (Pt.mk 0 (V3.mk 0 0 0)))).X).x = (((z14.getD ((z8 + (w64 (z18 - 1)))).toNat (Pt.mk 0 (V3.mk 0 0 0)))).X).x)) && ((decide ((((z14.getD ((z8 + z18)).toNat (Pt.mk 0 (V3.mk 0 0 0)))).X).y = (((z14.getD ((z8 + (w64 (z18 - 1)))).toNat (Pt.mk 0 (V3.mk 0 0 0)))).X).y)) && ((decide ((((z14.getD ((z8 + z18)).toNat (Pt.mk 0 (V3.mk 0 0 0)))).X).z = (((z14.getD ((z8 + (w64 (z18 - 1)))).toNat (Pt.mk 0 (V3.mk 0 0 0)))).X).z)) && true))))) = true →
    (inR z18 ((((srtX z5).length : Int) - z8)) ∧
    (inB z14 z15 ∧
    (cpIX (srtX z5) z8 (lset z14 z15 (((z14.getD ((z8 + z18)).toNat (Pt.mk 0 (V3.mk 0 0 0)))))) ((w64 (z15 + 1))) ((w64 (z18 + 1))) ∧
    ((decide (0 ≤ lnY (srtX z5) z8 ((w64 (z18 + 1))))) = true ∧
    (decide (lnY (srtX z5) z8 ((w64 (z18 + 1))) < lnY (srtX z5) z8 z18)) = true))))) ∧
   ((!((decide (((z14.getD ((z8 + z18)).toNat (Pt.mk 0 (V3.mk 0 0 0)))).M = ((z14.getD ((z8 + (w64 (z18 - 1)))).toNat (Pt.mk 0 (V3.mk 0 0 0)))).M)) && ((decide ((((z14.getD ((z8 + z18)).toNat (Pt.mk 0 (V3.mk 0 0 0)))).X).x = (((z14.getD ((z8 + (w64 (z18 - 1)))).toNat (Pt.mk 0 (V3.mk 0 0 0)))).X).x)) && ((decide ((((z14.getD ((z8 + z18)).toNat (Pt.mk 0 (V3.mk 0 0 0)))).X).y = (((z14.getD ((z8 + (w64 (z18 - 1)))).toNat (Pt.mk 0 (V3.mk 0 0 0)))).X).y)) && ((decide ((((z14.getD ((z8 + z18)).toNat (Pt.mk 0 (V3.mk 0 0 0)))).X).z = (((z14.getD ((z8 + (w64 (z18 - 1)))).toNat (Pt.mk 0 (V3.mk 0 0 0)))).X).z)) && true))))) = false →
   (cpIX (srtX z5) z8 z14 z15 ((w64 (z18 + 1))) ∧
   ((decide (0 ≤ lnY (srtX z5) z8 ((w64 (z18 + 1))))) = true ∧
   (decide (lnY (srtX z5) z8 ((w64 (z18 + 1))) < lnY (srtX z5) z8 z18)) = true))))))) ∧
  ((decide (z18 < (((srtX z5).length : Int) - z8))) = false →
  ((leP 0 z15 ∧
   (leP z15 (z14.length : Int) ∧
   leP (z14.length : Int) (z14.length : Int))) ∧
  (True ∧
  ((leP 0 0 ∧
   (leP 0 z15 ∧
   leP z15 (((lput z14 z15 ((lrep (((z14.length : Int) - z15)) ((Pt.mk 0 (V3.mk 0 0 0)))))).length : Int)))) ∧
  (lsub (lput z14 z15 ((lrep (((z14.length : Int) - z15)) ((Pt.mk 0 (V3.mk 0 0 0)))))) 0 z15, (0, ())) = (ofL g p, (ocE g [p], ())))))))))))))))) ∧
 (((decide ((((srtX z5).getD (z8).toNat (Pt.mk 0 (V3.mk 0 0 0)))).M = (((srtX z5).getD ((w64 (z8 - 1))).toNat (Pt.mk 0 (V3.mk 0 0 0)))).M)) && ((decide (((((srtX z5).getD (z8).toNat (Pt.mk 0 (V3.mk 0 0 0)))).X).x = ((((srtX z5).getD ((w64 (z8 - 1))).toNat (Pt.mk 0 (V3.mk 0 0 0)))).X).x)) && ((decide (((((srtX z5).getD (z8).toNat (Pt.mk 0 (V3.mk 0 0 0)))).X).y = ((((srtX z5).getD ((w64 (z8 - 1))).toNat (Pt.mk 0 (V3.mk 0 0 0)))).X).y)) && ((decide (((((srtX z5).getD (z8).toNat (Pt.mk 0 (V3.mk 0 0 0)))).X).z = ((((srtX z5).getD ((w64 (z8 - 1))).toNat (Pt.mk 0 (V3.mk 0 0 0)))).X).z)) && true)))) = false →
 (cpOX (srtX z5) ((w64 (z8 + 1))) ∧
 ((decide (0 ≤ lnX (srtX z5) ((w64 (z8 + 1))))) = true ∧
 (decide (lnX (srtX z5) ((w64 (z8 + 1))) < lnX (srtX z5) z8)) = true))))))) ∧
((decide (z8 < ((srtX z5).length : Int))) = false →
(srtX z5, (0, ())) = (ofL g p, (ocE g [p], ())))))))))))))))))
theorem r_oOf (x : HL C_oOf.args) : runs (env1 [(69, C_ocheck.hid), (70, C_oimages.hid)] [(73, 4, { fix := [(.tmp 0, .list .pt)], vars := [(.tmp 3, .int .i64)], inv := fun y v => cpOX y.1 v.1, mu := fun y v => lnX y.1 v.1 }), (73, 9, { fix := [(.tmp 0, .list .pt), (.tmp 27, .int .i64)], vars := [(.itmp 0, .list .pt), (.tmp 3, .int .i64), (.tmp 5, .int .i64)], inv := fun y v => cpIX y.1 y.2.1 v.1 v.2.1 v.2.2.1, mu := fun y v => lnY y.1 y.2.1 v.2.2.1 })] []) 400 35 C_oOf x = T_oOf x.1 x.2.1 := by kernel_rfl
theorem p_oOf (g : List Op3) (p : Pt) (h0 : (Sh.list .op).okA g) (h1 : (Sh.agg .pt).okA p) : T_oOf g p := by
  unfold T_oOf
  refine ⟨trivial, fun e he => ⟨fun q => ?_, fun q => ⟨trivial, fun l hl => ⟨?_, ?_⟩⟩⟩⟩
  · have hne : ocE g [p] ≠ 0 := by rw [← he]; simpa using q
    unfold ofL; rw [if_neg hne, he]
  · have hz : ocE g [p] = 0 := by rw [← he]; simpa using q
    exact ⟨p.M, by rw [hl]; exact imP_frm (oc_P hz)⟩
  · have hz : ocE g [p] = 0 := by rw [← he]; simpa using q
    refine compact_X (srtX l) ?_ (fun x => (x, ((0 : Int), ())) = (ofL g p, (ocE g [p], ()))) ?_
    · show (insG ordX l).length * 32 ≤ 140737488355328
      have := (oc_P hz).2.2
      rw [insG_len, hl, imP_len]; omega
    · unfold ofL unqG; rw [if_pos hz, hz, hl]; rfl
theorem s_oOf : Sound Try.prog 35 C_oOf :=
  sound_of_eq (env1_ok (.cons s_ocheck.hid (.cons s_oimages.hid (.nil)))) (fun x => T_oOf x.1 x.2.1) r_oOf fun x ok hp => p_oOf x.1 x.2.1 ok.1 ok.2.1
end Go.Fx
