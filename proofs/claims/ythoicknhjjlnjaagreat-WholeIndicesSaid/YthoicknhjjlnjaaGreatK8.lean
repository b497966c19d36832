/-
  Contracts: hOf, hBoth.
-/
import Derived.Test.YthoicknhjjlnjaaGreatK7
namespace Go.Fx
open Go Go.Proofs
set_option maxRecDepth 100000
set_option linter.unusedVariables false
set_option linter.unusedSimpArgs false
set_option linter.unusedSectionVars false
noncomputable def C_hOf : Contract := { args := [.list .op, .agg .vec], res := [.list .vec, .int .i64], pre := fun _ => True, F := fun x => ((hofL x.1 x.2.1 : List V3), (hkE x.1 x.2.1 : Int), ()) }
def T_hOf (g : List Op3) (h : V3) : Prop :=
  (True ∧
∀ z2 : Int,
(z2 = hkE g h →
(((!(decide (z2 = 0))) = true →
 ([], (z2, ())) = (hofL g h, (hkE g h, ()))) ∧
((!(decide (z2 = 0))) = false →
(imInv g h [] 0 ∧
∀ z5 : List V3,
∀ z6 : Int,
((decide ((-9223372036854775808) ≤ z6)) = true →
((decide (z6 ≤ 9223372036854775807)) = true →
(imInv g h z5 z6 →
(lfit 24 z5 →
(((decide (z6 < (g.length : Int))) = true →
 (inB g z6 ∧
 (True ∧
 ∀ z12 : V3,
 (z12 = tuV (((g.getD (z6).toNat zerO)).R) h →
 (lfit 24 (lapp z5 [z12]) ∧
 (imInv g h (lapp z5 [z12]) ((w64 (z6 + 1))) ∧
 ((decide (0 ≤ opMu g ((w64 (z6 + 1))))) = true ∧
 (decide (opMu g ((w64 (z6 + 1))) < opMu g z6)) = true))))))) ∧
((decide (z6 < (g.length : Int))) = false →
(True ∧
(((decide (((srtV z5).length : Int) < 2)) = true →
 (srtV z5, (0, ())) = (hofL g h, (hkE g h, ()))) ∧
((decide (((srtV z5).length : Int) < 2)) = false →
(cpOV (srtV z5) 1 ∧
∀ z13 : Int,
((decide ((-9223372036854775808) ≤ z13)) = true →
((decide (z13 ≤ 9223372036854775807)) = true →
(cpOV (srtV z5) z13 →
(((decide (z13 < ((srtV z5).length : Int))) = true →
 (inB (srtV z5) z13 ∧
 (inB (srtV z5) ((w64 (z13 - 1))) ∧
 ((((decide ((((srtV z5).getD (z13).toNat (V3.mk 0 0 0))).x = (((srtV z5).getD ((w64 (z13 - 1))).toNat (V3.mk 0 0 0))).x)) && ((decide ((((srtV z5).getD (z13).toNat (V3.mk 0 0 0))).y = (((srtV z5).getD ((w64 (z13 - 1))).toNat (V3.mk 0 0 0))).y)) && ((decide ((((srtV z5).getD (z13).toNat (V3.mk 0 0 0))).z = (((srtV z5).getD ((w64 (z13 - 1))).toNat (V3.mk 0 0 0))).z)) && true))) = true →
  ((leP 0 z13 ∧
   (leP z13 (((srtV z5).length : Int)) ∧
   leP (((srtV z5).length : Int)) (((srtV z5).length : Int)))) ∧
  (cpIV (srtV z5) z13 (srtV z5) z13 1 ∧
  ∀ z19 : List V3,
  ∀ z20 : Int,
  ((decide ((-9223372036854775808) ≤ z20)) = true →
  ((decide (z20 ≤ 9223372036854775807)) = true →
  ∀ z23 : Int,
  ((decide ((-9223372036854775808) ≤ z23)) = true →
  ((decide (z23 ≤ 9223372036854775807)) = true →
  (cpIV (srtV z5) z13 z19 z20 z23 →
  (eqP (z19.length : Int) (((srtV z5).length : Int)) →
  (((decide (z23 < (((srtV z5).length : Int) - z13))) = true →
   (inR z23 ((((srtV z5).length : Int) - z13)) ∧
   (inR ((w64 (z23 - 1))) ((((srtV z5).length : Int) - z13)) ∧
   (((!((decide (((z19.getD ((z13 + z23)).toNat (V3.mk 0 0 0))).x = ((z19.getD ((z13 + (w64 (z23 - 1)))).toNat (V3.mk 0 0 0))).x)) && ((decide (((z19.getD ((z13 + z23)).toNat (V3.mk 0 0 0))).y = ((z19.getD ((z13 + (w64 (z23 - 1)))).toNat (V3.mk 0 0 0))).y)) && ((decide (((z19.getD ((z13 + z23)).toNat (V3.mk 0 0 0))).z = ((z19.getD ((z13 + (w64 (z23 - 1)))).toNat (V3.mk 0 0 0))).z)) && true)))) = true →
    (inR z23 ((((srtV z5).length : Int) - z13)) ∧
    (inB z19 z20 ∧
    (cpIV (srtV z5) z13 (lset z19 z20 ((z19.getD ((z13 + z23)).toNat (V3.mk 0 0 0)))) ((w64 (z20 + 1))) ((w64 (z23 + 1))) ∧
    ((decide (0 ≤ lnS (srtV z5) z13 ((w64 (z23 + 1))))) = true ∧
    (decide (lnS (srtV z5) z13 ((w64 (z23 + 1))) < lnS (srtV z5) z13 z23)) = true))))) ∧
   ((!((decide (((z19.getD ((z13 + z23)).toNat (V3.mk 0 0 0))).x = ((z19.getD ((z13 + (w64 (z23 - 1)))).toNat (V3.mk 0 0 0))).x)) && ((decide (((z19.getD ((z13 + z23)).toNat (V3.mk 0 0 0))).y = ((z19.getD ((z13 + (w64 (z23 - 1)))).toNat (V3.mk 0 0 0))).y)) && ((decide (((z19.getD ((z13 + z23)).toNat (V3.mk 0 0 0))).z = ((z19.getD ((z13 + (w64 (z23 - 1)))).toNat (V3.mk 0 0 0))).z)) && true)))) = false →
   (cpIV (srtV z5) z13 z19 z20 ((w64 (z23 + 1))) ∧
   ((decide (0 ≤ lnS (srtV z5) z13 ((w64 (z23 + 1))))) = true ∧
   (decide (lnS (srtV z5) z13 ((w64 (z23 + 1))) < lnS (srtV z5) z13 z23)) = true))))))) ∧
  ((decide (z23 < (((srtV z5).length : Int) - z13))) = false →
  ((leP 0 z20 ∧
   (leP z20 (z19.length : Int) ∧
   leP (z19.length : Int) (z19.length : Int))) ∧
  (True ∧
  ((leP 0 0 ∧
   (leP 0 z20 ∧
   leP z20 (((lput z19 z20 ((lrep (((z19.length : Int) - z20)) (V3.mk 0 0 0)))).length : Int)))) ∧
  (lsub (lput z19 z20 ((lrep (((z19.length : Int) - z20)) (V3.mk 0 0 0)))) 0 z20, (0, ())) = (hofL g h, (hkE g h, ())))))))))))))))) ∧
 (((decide ((((srtV z5).getD (z13).toNat (V3.mk 0 0 0))).x = (((srtV z5).getD ((w64 (z13 - 1))).toNat (V3.mk 0 0 0))).x)) && ((decide ((((srtV z5).getD (z13).toNat (V3.mk 0 0 0))).y = (((srtV z5).getD ((w64 (z13 - 1))).toNat (V3.mk 0 0 0))).y)) && ((decide ((((srtV z5).getD (z13).toNat (V3.mk 0 0 0))).z = (((srtV z5).getD ((w64 (z13 - 1))).toNat (V3.mk 0 0 0))).z)) && true))) = false →
 (cpOV (srtV z5) ((w64 (z13 + 1))) ∧
 ((decide (0 ≤ lnV (srtV z5) ((w64 (z13 + 1))))) = true ∧
 (decide (lnV (srtV z5) ((w64 (z13 + 1))) < lnV (srtV z5) z13)) = true))))))) ∧
((decide (z13 < ((srtV z5).length : Int))) = false →
(srtV z5, (0, ())) = (hofL g h, (hkE g h, ()))))))))))))))))))))))
theorem r_hOf (x : HL C_hOf.args) : runs (env1 [(27, C_hcheck.hid), (28, C_hturned.hid)] [(8, 6, { fix := [(.tmp 16, .list .op), (.cell 3, .agg .vec)], vars := [(.tmp 7, .list .vec), (.tmp 18, .int .i64)], inv := fun y v => imInv y.1 y.2.1 v.1 v.2.1, mu := fun y v => opMu y.1 v.2.1 }), (51, 4, { fix := [(.tmp 0, .list .vec)], vars := [(.tmp 3, .int .i64)], inv := fun y v => cpOV y.1 v.1, mu := fun y v => lnV y.1 v.1 }), (51, 9, { fix := [(.tmp 0, .list .vec), (.tmp 27, .int .i64)], vars := [(.itmp 0, .list .vec), (.tmp 3, .int .i64), (.tmp 5, .int .i64)], inv := fun y v => cpIV y.1 y.2.1 v.1 v.2.1 v.2.2.1, mu := fun y v => lnS y.1 y.2.1 v.2.2.1 })] []) 400 8 C_hOf x = T_hOf x.1 x.2.1 := by kernel_rfl
theorem p_hOf (g : List Op3) (h : V3) (h0 : (Sh.list .op).okA g) (h1 : (Sh.agg .vec).okA h) : T_hOf g h := by
  have hb : g.length * 96 ≤ room := h0.2
  refine ⟨trivial, fun e he => ⟨fun q => ?_, fun q => ⟨⟨by omega, by omega, rfl⟩, fun l i _ _ hI hfit => ⟨fun hi => ?_, fun hi => ⟨trivial, ?_⟩⟩⟩⟩⟩
  · have hne : hkE g h ≠ 0 := by rw [← he]; simpa using q
    unfold hofL; rw [if_neg hne, he]
  · have hi := of_decide_eq_true hi
    have i0 := hI.1
    obtain ⟨e1, e2, e3⟩ := opMu_next hb i0 hi
    refine ⟨⟨i0, hi⟩, trivial, fun v hv => ⟨?_, ?_, e2, e3⟩⟩
    · show (l ++ [v]).length * 24 ≤ 140737488355328
      have : l.length ≤ g.length := by rw [hI.2.2]; unfold imgV; rw [List.length_map, List.length_take]; omega
      have : g.length * 96 ≤ 140737488355328 := hb
      rw [List.length_append]; simp only [List.length_singleton]; omega
    · rw [e1]
      refine ⟨by omega, by omega, ?_⟩
      rw [take_succ i0 hi zerO]
      unfold imgV
      rw [List.map_append, hI.2.2, hv]; rfl
  · have hz : hkE g h = 0 := by rw [← he]; simpa using q
    have hl : l = imgV g h := by rw [hI.2.2, take_end (of_decide_eq_false hi)]
    refine compact_V (srtV l) ?_ (fun x => (x, ((0 : Int), ())) = (hofL g h, (hkE g h, ()))) ?_
    · show (insG cmpV l).length * 24 ≤ 140737488355328
      rw [insG_len]; exact hfit
    · unfold hofL unqG; rw [if_pos hz, hz, hl]; rfl
theorem s_hOf : Sound Tryz.prog 8 C_hOf :=
  sound_of_eq (env1_ok (.cons s_hcheck.hid (.cons s_hturned.hid (.nil)))) (fun x => T_hOf x.1 x.2.1) r_hOf fun x ok hp => p_hOf x.1 x.2.1 ok.1 ok.2.1
noncomputable def C_hBoth : Contract := { args := [.list .op, .agg .vec], res := [.list .vec, .int .i64], pre := fun _ => True, F := fun x => ((hboL x.1 x.2.1 : List V3), (hkE x.1 x.2.1 : Int), ()) }
def T_hBoth (g : List Op3) (h : V3) : Prop :=
  (True ∧
∀ z2 : List V3,
(z2 = hofL g h →
∀ z4 : Int,
(z4 = hkE g h →
(((!(decide (z4 = 0))) = true →
 ([], (z4, ())) = (hboL g h, (hkE g h, ()))) ∧
((!(decide (z4 = 0))) = false →
(boI z2 z2 0 ∧
∀ z7 : List V3,
∀ z8 : Int,
((decide ((-9223372036854775808) ≤ z8)) = true →
((decide (z8 ≤ 9223372036854775807)) = true →
(boI z2 z7 z8 →
(lfit 24 z7 →
((lsub z7 0 (z2.length : Int) = z2 →
 (((decide (z8 < (z2.length : Int))) = true →
  (inR z8 (z2.length : Int) ∧
  (True ∧
  (lfit 24 (lapp z7 ([ngV ((z7.getD (z8).toNat (V3.mk 0 0 0)))])) ∧
  ((eqP (z2.length : Int) (z2.length : Int) ∧
   (lsub (lapp z7 ([ngV ((z7.getD (z8).toNat (V3.mk 0 0 0)))])) 0 (z2.length : Int) = z2 ∧
   (boI z2 (lapp z7 ([ngV ((z7.getD (z8).toNat (V3.mk 0 0 0)))])) ((w64 (z8 + 1))) ∧
   ((decide (0 ≤ boM z2 ((w64 (z8 + 1))))) = true ∧
   (decide (boM z2 ((w64 (z8 + 1))) < boM z2 z8)) = true)))) ∧
  (lsub z7 0 (z2.length : Int) = z2 ∧
  (boI z2 (lapp z7 ([ngV ((z7.getD (z8).toNat (V3.mk 0 0 0)))])) ((w64 (z8 + 1))) ∧
  ((decide (0 ≤ boM z2 ((w64 (z8 + 1))))) = true ∧
  (decide (boM z2 ((w64 (z8 + 1))) < boM z2 z8)) = true)))))))) ∧
 ((decide (z8 < (z2.length : Int))) = false →
 (True ∧
 (((decide (((srtV z7).length : Int) < 2)) = true →
  (srtV z7, (0, ())) = (hboL g h, (hkE g h, ()))) ∧
 ((decide (((srtV z7).length : Int) < 2)) = false →
 (cpOV (srtV z7) 1 ∧
 ∀ z16 : Int,
 ((decide ((-9223372036854775808) ≤ z16)) = true →
 ((decide (z16 ≤ 9223372036854775807)) = true →
 (cpOV (srtV z7) z16 →
 (((decide (z16 < ((srtV z7).length : Int))) = true →
  (inB (srtV z7) z16 ∧
  (inB (srtV z7) ((w64 (z16 - 1))) ∧
  ((((decide ((((srtV z7).getD (z16).toNat (V3.mk 0 0 0))).x = (((srtV z7).getD ((w64 (z16 - 1))).toNat (V3.mk 0 0 0))).x)) && ((decide ((((srtV z7).getD (z16).toNat (V3.mk 0 0 0))).y = (((srtV z7).getD ((w64 (z16 - 1))).toNat (V3.mk 0 0 0))).y)) && ((decide ((((srtV z7).getD (z16).toNat (V3.mk 0 0 0))).z = (((srtV z7).getD ((w64 (z16 - 1))).toNat (V3.mk 0 0 0))).z)) && true))) = true →
   ((leP 0 z16 ∧
    (leP z16 (((srtV z7).length : Int)) ∧
    leP (((srtV z7).length : Int)) (((srtV z7).length : Int)))) ∧
   (cpIV (srtV z7) z16 (srtV z7) z16 1 ∧
   ∀ z22 : List V3,
   ∀ z23 : Int,
   ((decide ((-9223372036854775808) ≤ z23)) = true →
   ((decide (z23 ≤ 9223372036854775807)) = true →
   ∀ z26 : Int,
   ((decide ((-9223372036854775808) ≤ z26)) = true →
   ((decide (z26 ≤ 9223372036854775807)) = true →
   (cpIV (srtV z7) z16 z22 z23 z26 →
   (eqP (z22.length : Int) (((srtV z7).length : Int)) →
   (((decide (z26 < (((srtV z7).length : Int) - z16))) = true →
    (inR z26 ((((srtV z7).length : Int) - z16)) ∧
    (inR ((w64 (z26 - 1))) ((((srtV z7).length : Int) - z16)) ∧
    (((!((decide (((z22.getD ((z16 + z26)).toNat (V3.mk 0 0 0))).x = ((z22.getD ((z16 + (w64 (z26 - 1)))).toNat (V3.mk 0 0 0))).x)) && ((decide (((z22.getD ((z16 + z26)).toNat (V3.mk 0 0 0))).y = ((z22.getD ((z16 + (w64 (z26 - 1)))).toNat (V3.mk 0 0 0))).y)) && ((decide (((z22.getD ((z16 + z26)).toNat (V3.mk 0 0 0))).z = ((z22.getD ((z16 + (w64 (z26 - 1)))).toNat (V3.mk 0 0 0))).z)) && true)))) = true →
     (inR z26 ((((srtV z7).length : Int) - z16)) ∧
     (inB z22 z23 ∧
     (cpIV (srtV z7) z16 (lset z22 z23 ((z22.getD ((z16 + z26)).toNat (V3.mk 0 0 0)))) ((w64 (z23 + 1))) ((w64 (z26 + 1))) ∧
     ((decide (0 ≤ lnS (srtV z7) z16 ((w64 (z26 + 1))))) = true ∧
     (decide (lnS (srtV z7) z16 ((w64 (z26 + 1))) < lnS (srtV z7) z16 z26)) = true))))) ∧
    ((!((decide (((z22.getD ((z16 + z26)).toNat (V3.mk 0 0 0))).x = ((z22.getD ((z16 + (w64 (z26 - 1)))).toNat (V3.mk 0 0 0))).x)) && ((decide (((z22.getD ((z16 + z26)).toNat (V3.mk 0 0 0))).y = ((z22.getD ((z16 + (w64 (z26 - 1)))).toNat (V3.mk 0 0 0))).y)) && ((decide (((z22.getD ((z16 + z26)).toNat (V3.mk 0 0 0))).z = ((z22.getD ((z16 + (w64 (z26 - 1)))).toNat (V3.mk 0 0 0))).z)) && true)))) = false →
    (cpIV (srtV z7) z16 z22 z23 ((w64 (z26 + 1))) ∧
    ((decide (0 ≤ lnS (srtV z7) z16 ((w64 (z26 + 1))))) = true ∧
    (decide (lnS (srtV z7) z16 ((w64 (z26 + 1))) < lnS (srtV z7) z16 z26)) = true))))))) ∧
   ((decide (z26 < (((srtV z7).length : Int) - z16))) = false →
   ((leP 0 z23 ∧
    (leP z23 (z22.length : Int) ∧
    leP (z22.length : Int) (z22.length : Int))) ∧
   (True ∧
   ((leP 0 0 ∧
    (leP 0 z23 ∧
    leP z23 (((lput z22 z23 ((lrep (((z22.length : Int) - z23)) (V3.mk 0 0 0)))).length : Int)))) ∧
   (lsub (lput z22 z23 ((lrep (((z22.length : Int) - z23)) (V3.mk 0 0 0)))) 0 z23, (0, ())) = (hboL g h, (hkE g h, ())))))))))))))))) ∧
  (((decide ((((srtV z7).getD (z16).toNat (V3.mk 0 0 0))).x = (((srtV z7).getD ((w64 (z16 - 1))).toNat (V3.mk 0 0 0))).x)) && ((decide ((((srtV z7).getD (z16).toNat (V3.mk 0 0 0))).y = (((srtV z7).getD ((w64 (z16 - 1))).toNat (V3.mk 0 0 0))).y)) && ((decide ((((srtV z7).getD (z16).toNat (V3.mk 0 0 0))).z = (((srtV z7).getD ((w64 (z16 - 1))).toNat (V3.mk 0 0 0))).z)) && true))) = false →
  (cpOV (srtV z7) ((w64 (z16 + 1))) ∧
  ((decide (0 ≤ lnV (srtV z7) ((w64 (z16 + 1))))) = true ∧
  (decide (lnV (srtV z7) ((w64 (z16 + 1))) < lnV (srtV z7) z16)) = true))))))) ∧
 ((decide (z16 < ((srtV z7).length : Int))) = false →
 (srtV z7, (0, ())) = (hboL g h, (hkE g h, ())))))))))))))) ∧
(((decide (z8 < (z2.length : Int))) = true →
 (inB z2 z8 ∧
 (True ∧
 (lfit 24 (lapp z7 ([ngV ((z2.getD (z8).toNat (V3.mk 0 0 0)))])) ∧
 (z2 = z2 ∧
 (boI z2 (lapp z7 ([ngV ((z2.getD (z8).toNat (V3.mk 0 0 0)))])) ((w64 (z8 + 1))) ∧
 ((decide (0 ≤ boM z2 ((w64 (z8 + 1))))) = true ∧
 (decide (boM z2 ((w64 (z8 + 1))) < boM z2 z8)) = true))))))) ∧
((decide (z8 < (z2.length : Int))) = false →
(True ∧
(((decide (((srtV z7).length : Int) < 2)) = true →
 (srtV z7, (0, ())) = (hboL g h, (hkE g h, ()))) ∧
((decide (((srtV z7).length : Int) < 2)) = false →
(cpOV (srtV z7) 1 ∧
∀ z15 : Int,
((decide ((-9223372036854775808) ≤ z15)) = true →
((decide (z15 ≤ 9223372036854775807)) = true →
(cpOV (srtV z7) z15 →
(((decide (z15 < ((srtV z7).length : Int))) = true →
 (inB (srtV z7) z15 ∧
 (inB (srtV z7) ((w64 (z15 - 1))) ∧
 ((((decide ((((srtV z7).getD (z15).toNat (V3.mk 0 0 0))).x = (((srtV z7).getD ((w64 (z15 - 1))).toNat (V3.mk 0 0 0))).x)) && ((decide ((((srtV z7).getD (z15).toNat (V3.mk 0 0 0))).y = (((srtV z7).getD ((w64 (z15 - 1))).toNat (V3.mk 0 0 0))).y)) && ((decide ((((srtV z7).getD (z15).toNat (V3.mk 0 0 0))).z = (((srtV z7).getD ((w64 (z15 - 1))).toNat (V3.mk 0 0 0))).z)) && true))) = true →
  ((leP 0 z15 ∧
   (leP z15 (((srtV z7).length : Int)) ∧
   leP (((srtV z7).length : Int)) (((srtV z7).length : Int)))) ∧
  (cpIV (srtV z7) z15 (srtV z7) z15 1 ∧
  ∀ z21 : List V3,
  ∀ z22 : Int,
  ((decide ((-9223372036854775808) ≤ z22)) = true →
  ((decide (z22 ≤ 9223372036854775807)) = true →
  ∀ z25 : Int,
  ((decide ((-9223372036854775808) ≤ z25)) = true →
  ((decide (z25 ≤ 9223372036854775807)) = true →
  (cpIV (srtV z7) z15 z21 z22 z25 →
  (eqP (z21.length : Int) (((srtV z7).length : Int)) →
  (((decide (z25 < (((srtV z7).length : Int) - z15))) = true →
   (inR z25 ((((srtV z7).length : Int) - z15)) ∧
   (inR ((w64 (z25 - 1))) ((((srtV z7).length : Int) - z15)) ∧
   (((!((decide (((z21.getD ((z15 + z25)).toNat (V3.mk 0 0 0))).x = ((z21.getD ((z15 + (w64 (z25 - 1)))).toNat (V3.mk 0 0 0))).x)) && ((decide (((z21.getD ((z15 + z25)).toNat (V3.mk 0 0 0))).y = ((z21.getD ((z15 + (w64 (z25 - 1)))).toNat (V3.mk 0 0 0))).y)) && ((decide (((z21.getD ((z15 + z25)).toNat (V3.mk 0 0 0))).z = ((z21.getD ((z15 + (w64 (z25 - 1)))).toNat (V3.mk 0 0 0))).z)) && true)))) = true →
    (inR z25 ((((srtV z7).length : Int) - z15)) ∧
    (inB z21 z22 ∧
    (cpIV (srtV z7) z15 (lset z21 z22 ((z21.getD ((z15 + z25)).toNat (V3.mk 0 0 0)))) ((w64 (z22 + 1))) ((w64 (z25 + 1))) ∧
    ((decide (0 ≤ lnS (srtV z7) z15 ((w64 (z25 + 1))))) = true ∧
    (decide (lnS (srtV z7) z15 ((w64 (z25 + 1))) < lnS (srtV z7) z15 z25)) = true))))) ∧
   ((!((decide (((z21.getD ((z15 + z25)).toNat (V3.mk 0 0 0))).x = ((z21.getD ((z15 + (w64 (z25 - 1)))).toNat (V3.mk 0 0 0))).x)) && ((decide (((z21.getD ((z15 + z25)).toNat (V3.mk 0 0 0))).y = ((z21.getD ((z15 + (w64 (z25 - 1)))).toNat (V3.mk 0 0 0))).y)) && ((decide (((z21.getD ((z15 + z25)).toNat (V3.mk 0 0 0))).z = ((z21.getD ((z15 + (w64 (z25 - 1)))).toNat (V3.mk 0 0 0))).z)) && true)))) = false →
   (cpIV (srtV z7) z15 z21 z22 ((w64 (z25 + 1))) ∧
   ((decide (0 ≤ lnS (srtV z7) z15 ((w64 (z25 + 1))))) = true ∧
   (decide (lnS (srtV z7) z15 ((w64 (z25 + 1))) < lnS (srtV z7) z15 z25)) = true))))))) ∧
  ((decide (z25 < (((srtV z7).length : Int) - z15))) = false →
  ((leP 0 z22 ∧
   (leP z22 (z21.length : Int) ∧
   leP (z21.length : Int) (z21.length : Int))) ∧
  (True ∧
  ((leP 0 0 ∧
   (leP 0 z22 ∧
   leP z22 (((lput z21 z22 ((lrep (((z21.length : Int) - z22)) (V3.mk 0 0 0)))).length : Int)))) ∧
  (lsub (lput z21 z22 ((lrep (((z21.length : Int) - z22)) (V3.mk 0 0 0)))) 0 z22, (0, ())) = (hboL g h, (hkE g h, ())))))))))))))))) ∧
 (((decide ((((srtV z7).getD (z15).toNat (V3.mk 0 0 0))).x = (((srtV z7).getD ((w64 (z15 - 1))).toNat (V3.mk 0 0 0))).x)) && ((decide ((((srtV z7).getD (z15).toNat (V3.mk 0 0 0))).y = (((srtV z7).getD ((w64 (z15 - 1))).toNat (V3.mk 0 0 0))).y)) && ((decide ((((srtV z7).getD (z15).toNat (V3.mk 0 0 0))).z = (((srtV z7).getD ((w64 (z15 - 1))).toNat (V3.mk 0 0 0))).z)) && true))) = false →
 (cpOV (srtV z7) ((w64 (z15 + 1))) ∧
 ((decide (0 ≤ lnV (srtV z7) ((w64 (z15 + 1))))) = true ∧
 (decide (lnV (srtV z7) ((w64 (z15 + 1))) < lnV (srtV z7) z15)) = true))))))) ∧
((decide (z15 < ((srtV z7).length : Int))) = false →
(srtV z7, (0, ())) = (hboL g h, (hkE g h, ()))))))))))))))))))))))))
theorem r_hBoth (x : HL C_hBoth.args) : runs (env1 [(8, C_hOf.hid), (34, C_hminus)] [(11, 5, { fix := [], vars := [], inv := fun _ _ => True, mu := fun _ _ => 0, ali := some { to := 19, tn := 6, ti := 21, fl := .vec, inv := fun l0 l i => boI l0 l i, mu := fun l0 l i => boM l0 i } }), (51, 4, { fix := [(.tmp 0, .list .vec)], vars := [(.tmp 3, .int .i64)], inv := fun y v => cpOV y.1 v.1, mu := fun y v => lnV y.1 v.1 }), (51, 9, { fix := [(.tmp 0, .list .vec), (.tmp 27, .int .i64)], vars := [(.itmp 0, .list .vec), (.tmp 3, .int .i64), (.tmp 5, .int .i64)], inv := fun y v => cpIV y.1 y.2.1 v.1 v.2.1 v.2.2.1, mu := fun y v => lnS y.1 y.2.1 v.2.2.1 })] []) 400 11 C_hBoth x = T_hBoth x.1 x.2.1 := by kernel_rfl
theorem p_hBoth (g : List Op3) (h : V3) (h0 : (Sh.list .op).okA g) (h1 : (Sh.agg .vec).okA h) : T_hBoth g h := by
  have hl := hof_len g h
  have ev : ∀ (l0 l : List V3) (i : Int), (l0.length : Int) ≤ 192 → boI l0 l i → i < (l0.length : Int) → lfit 24 (lapp l [ngV (l0.getD i.toNat (V3.mk 0 0 0))]) ∧ (boI l0 (lapp l [ngV (l0.getD i.toNat (V3.mk 0 0 0))]) (w64 (i + 1)) ∧ ((decide (0 ≤ boM l0 (w64 (i + 1)))) = true ∧ (decide (boM l0 (w64 (i + 1)) < boM l0 i)) = true)) := fun l0 l i h0 hI hi => by
    have i0 := hI.1.1
    have e1 : w64 (i + 1) = i + 1 := w64_id (by omega) (by omega)
    have e2 := bo_len hI
    rw [e1]
    refine ⟨?_, bo_next hI hi, decide_eq_true (by unfold boM; omega), decide_eq_true (by unfold boM; omega)⟩
    show (l ++ [ngV (l0.getD i.toNat (V3.mk 0 0 0))]).length * 24 ≤ 140737488355328
    rw [List.length_append, List.length_singleton]; omega
  unfold T_hBoth
  refine ⟨trivial, fun z2 h2 z4 h4 => ⟨fun q => ?_, fun q => ?_⟩⟩
  · have hne : hkE g h ≠ 0 := by rw [← h4]; simpa using q
    rw [show hboL g h = [] from by unfold hboL; rw [if_neg hne], h4]
  have hz : hkE g h = 0 := by rw [← h4]; simpa using q
  have hz2 : (z2.length : Int) ≤ 192 := by rw [h2]; exact hl
  have fin : ∀ (l : List V3) (i : Int), boI z2 l i → (decide (i < (z2.length : Int))) = false → lfit 24 l → unqG cmpV l = hboL g h ∧ (srtV l).length * 24 ≤ 140737488355328 := fun l i hI hi hfit => by
    refine ⟨?_, ?_⟩
    · rw [bo_end hI (of_decide_eq_false hi), h2]; unfold hboL; rw [if_pos hz]
    · show (insG cmpV l).length * 24 ≤ 140737488355328
      rw [insG_len]; exact hfit
  refine ⟨bo_init z2, fun l i _ _ hI hfit => ⟨fun hsub => ⟨fun hi => ?_, fun hi => ⟨trivial, ?_⟩⟩, ⟨fun hi => ?_, fun hi => ⟨trivial, ?_⟩⟩⟩⟩
  · have hi := of_decide_eq_true hi
    obtain ⟨f1, f2⟩ := ev z2 l i hz2 hI hi
    rw [bo_at hI hi]
    exact ⟨⟨hI.1.1, hi⟩, trivial, f1, ⟨⟨rfl, by rw [bo_sub f2.1], f2⟩, hsub, f2⟩⟩
  · obtain ⟨f1, f2⟩ := fin l i hI hi hfit
    refine compact_V (srtV l) f2 (fun x => (x, ((0 : Int), ())) = (hboL g h, (hkE g h, ()))) ?_
    rw [hz, ← f1]; rfl
  · have hi := of_decide_eq_true hi
    obtain ⟨f1, f2⟩ := ev z2 l i hz2 hI hi
    exact ⟨⟨hI.1.1, hi⟩, trivial, f1, rfl, f2⟩
  · obtain ⟨f1, f2⟩ := fin l i hI hi hfit
    refine compact_V (srtV l) f2 (fun x => (x, ((0 : Int), ())) = (hboL g h, (hkE g h, ()))) ?_
    rw [hz, ← f1]; rfl
theorem s_hBoth : Sound Tryz.prog 11 C_hBoth :=
  sound_of_eq (env1_ok (.cons s_hOf.hid (.cons s_hminus (.nil)))) (fun x => T_hBoth x.1 x.2.1) r_hBoth fun x ok hp => p_hBoth x.1 x.2.1 ok.1 ok.2.1
end Go.Fx
