/-
  Contracts: hOf.
-/
import Derived.Test.YteldhhdgihmocaaK9
namespace Go.Fx
open Go Go.Proofs
set_option maxRecDepth 100000
set_option linter.unusedVariables false
set_option linter.unusedSimpArgs false
set_option linter.unusedSectionVars false
noncomputable def C_hOf : Contract := { args := [.list .op, .agg .vec], res := [.list .vec, .int .i64], pre := fun _ => True, F := fun x => ((hofL x.1 x.2.1 : List V3), (hkE x.1 x.2.1 : Int), ()) }
def T_hOf (g : List Op3) (h : V3) : Prop :=
  (True ∧
∀ z2 : Int,
(z2 = hkE g h →
(((!(decide (z2 = 0))) = true →
 ([], (z2, ())) = (hofL g h, (hkE g h, ()))) ∧
((!(decide (z2 = 0))) = false →
(imInv g h [] 0 ∧
∀ z5 : List V3,
∀ z6 : Int,
((decide ((-9223372036854775808) ≤ z6)) = true →
((decide (z6 ≤ 9223372036854775807)) = true →
(imInv g h z5 z6 →
(lfit 24 z5 →
(((decide (z6 < (g.length : Int))) = true →
 (inB g z6 ∧
 (True ∧
 ∀ z12 : V3,
 (z12 = tuV (((g.getD (z6).toNat zerO)).R) h →
 (lfit 24 (lapp z5 [z12]) ∧
 (imInv g h (lapp z5 [z12]) ((w64 (z6 + 1))) ∧
 ((decide (0 ≤ opMu g ((w64 (z6 + 1))))) = true ∧
 (decide (opMu g ((w64 (z6 + 1))) < opMu g z6)) = true))))))) ∧
((decide (z6 < (g.length : Int))) = false →
(True ∧
(((decide (((srtV z5).length : Int) < 2)) = true →
 (srtV z5, (0, ())) = (hofL g h, (hkE g h, ()))) ∧
((decide (((srtV z5).length : Int) < 2)) = false →
(cpOV (srtV z5) 1 ∧
∀ z13 : Int,
((decide ((-9223372036854775808) ≤ z13)) = true →
((decide (z13 ≤ 9223372036854775807)) = true →
(cpOV (srtV z5) z13 →
(((decide (z13 < ((srtV z5).length : Int))) = true →
 (inB (srtV z5) z13 ∧
 (inB (srtV z5) ((w64 (z13 - 1))) ∧
 ((((decide ((((srtV z5).getD (z13).toNat (V3.mk 0 0 0))).x = (((srtV z5).getD ((w64 (z13 - 1))).toNat (V3.mk 0 0 0))).x)) && ((decide ((((srtV z5).getD (z13).toNat (V3.mk 0 0 0))).y = (((srtV z5).getD ((w64 (z13 - 1))).toNat (V3.mk 0 0 0))).y)) && ((decide ((((srtV z5).getD (z13).toNat (V3.mk 0 0 0))).z = (((srtV z5).getD ((w64 (z13 - 1))).toNat (V3.mk 0 0 0))).z)) && true))) = true →
  ((leP 0 z13 ∧
   (leP z13 (((srtV z5).length : Int)) ∧
   leP (((srtV z5).length : Int)) (((srtV z5).length : Int)))) ∧
  (cpIV (srtV z5) z13 (srtV z5) z13 1 ∧
  ∀ z19 : List V3,
  ∀ z20 : Int,
  ((decide ((-9223372036854775808) ≤ z20)) = true →
  ((decide (z20 ≤ 9223372036854775807)) = true →
  ∀ z23 : Int,
  ((decide ((-9223372036854775808) ≤ z23)) = true →
  ((decide (z23 ≤ 9223372036854775807)) = true →
  (cpIV (srtV z5) z13 z19 z20 z23 →
  (eqP (z19.length : Int) (((srtV z5).length : Int)) →
  (((decide (z23 < (((srtV z5).length : Int) - z13))) = true →
   (inR z23 ((((srtV z5).length : Int) - z13)) ∧
   (inR ((w64 (z23 - 1))) ((((srtV z5).length : Int) - z13)) ∧
   (((!((decide (((z19.getD ((z13 + z23)).toNat (V3.mk 0 0 0))).x = ((z19.getD ((z13 + (w64 (z23 - 1)))).toNat (V3.mk 0 0 0))).x)) && ((decide (((z19.getD ((z13 + z23)).toNat (V3.mk 0 0 0))).y = ((z19.getD ((z13 + (w64 (z23 - 1)))).toNat (V3.mk 0 0 0))).y)) && ((decide (((z19.getD ((z13 + z23)).toNat (V3.mk 0 0 0))).z = ((z19.getD ((z13 + (w64 (z23 - 1)))).toNat (V3.mk 0 0 0))).z)) && true)))) = true →
    (inR z23 ((((srtV z5).length : Int) - z13)) ∧
    (inB z19 z20 ∧
    (cpIV (srtV z5) z13 (lset z19 z20 ((z19.getD ((z13 + z23)).toNat (V3.mk 0 0 0)))) ((w64 (z20 + 1))) ((w64 (z23 + 1))) ∧
    ((decide (0 ≤ lnS (srtV z5) z13 ((w64 (z23 + 1))))) = true ∧
    (decide (lnS (srtV z5) z13 ((w64 (z23 + 1))) < lnS (srtV z5) z13 z23)) = true))))) ∧
   ((!((decide (((z19.getD ((z13 + z23)).toNat (V3.mk 0 0 0))).x = ((z19.getD ((z13 + (w64 (z23 - 1)))).toNat (V3.mk 0 0 0))).x)) && ((decide (((z19.getD ((z13 + z23)).toNat (V3.mk 0 0 0))).y = ((z19.getD ((z13 + (w64 (z23 - 1)))).toNat (V3.mk 0 0 0))).y)) && ((decide (((z19.getD ((z13 + z23)).toNat (V3.mk 0 0 0))).z = ((z19.getD ((z13 + (w64 (z23 - 1)))).toNat (V3.mk 0 0 0))).z)) && true)))) = false →
   (cpIV (srtV z5) z13 z19 z20 ((w64 (z23 + 1))) ∧
   ((decide (0 ≤ lnS (srtV z5) z13 ((w64 (z23 + 1))))) = true ∧
   (decide (lnS (srtV z5) z13 ((w64 (z23 + 1))) < lnS (srtV z5) z13 z23)) = true))))))) ∧
  ((decide (z23 < (((srtV z5).length : Int) - z13))) = false →
  ((leP 0 z20 ∧
   (leP z20 (z19.length : Int) ∧
   leP (z19.length : Int) (z19.length : Int))) ∧
  (True ∧
  ((leP 0 0 ∧
   (leP 0 z20 ∧
   leP z20 (((lput z19 z20 ((lrep (((z19.length : Int) - z20)) (V3.mk 0 0 0)))).length : Int)))) ∧
  (lsub (lput z19 z20 ((lrep (((z19.length : Int) - z20)) (V3.mk 0 0 0)))) 0 z20, (0, ())) = (hofL g h, (hkE g h, ())))))))))))))))) ∧
 (((decide ((((srtV z5).getD (z13).toNat (V3.mk 0 0 0))).x = (((srtV z5).getD ((w64 (z13 - 1))).toNat (V3.mk 0 0 0))).x)) && ((decide ((((srtV z5).getD (z13).toNat (V3.mk 0 0 0))).y = (((srtV z5).getD ((w64 (z13 - 1))).toNat (V3.mk 0 0 0))).y)) && ((decide ((((srtV z5).getD (z13).toNat (V3.mk 0 0 0))).z = (((srtV z5).getD ((w64 (z13 - 1))).toNat (V3.mk 0 0 0))).z)) && true))) = false →
 (cpOV (srtV z5) ((w64 (z13 + 1))) ∧
 ((decide (0 ≤ lnV (srtV z5) ((w64 (z13 + 1))))) = true ∧
 (decide (lnV (srtV z5) ((w64 (z13 + 1))) < lnV (srtV z5) z13)) = true))))))) ∧
((decide (z13 < ((srtV z5).length : Int))) = false →
(srtV z5, (0, ())) = (hofL g h, (hkE g h, ()))))))))))))))))))))))
theorem r_hOf (x : HL C_hOf.args) : runs (env1 [(50, C_hcheck.hid), (49, C_hturned.hid)] [(28, 6, { fix := [(.tmp 16, .list .op), (.cell 3, .agg .vec)], vars := [(.tmp 7, .list .vec), (.tmp 18, .int .i64)], inv := fun y v => imInv y.1 y.2.1 v.1 v.2.1, mu := fun y v => opMu y.1 v.2.1 }), (70, 4, { fix := [(.tmp 0, .list .vec)], vars := [(.tmp 3, .int .i64)], inv := fun y v => cpOV y.1 v.1, mu := fun y v => lnV y.1 v.1 }), (70, 9, { fix := [(.tmp 0, .list .vec), (.tmp 27, .int .i64)], vars := [(.itmp 0, .list .vec), (.tmp 3, .int .i64), (.tmp 5, .int .i64)], inv := fun y v => cpIV y.1 y.2.1 v.1 v.2.1 v.2.2.1, mu := fun y v => lnS y.1 y.2.1 v.2.2.1 })] []) 400 28 C_hOf x = T_hOf x.1 x.2.1 := by kernel_rfl
theorem p_hOf (g : List Op3) (h : V3) (h0 : (Sh.list .op).okA g) (h1 : (Sh.agg .vec).okA h) : T_hOf g h := by
  have hb : g.length * 96 ≤ room := h0.2
  refine ⟨trivial, fun e he => ⟨fun q => ?_, fun q => ⟨⟨by omega, by omega, rfl⟩, fun l i _ _ hI hfit => ⟨fun hi => ?_, fun hi => ⟨trivial, ?_⟩⟩⟩⟩⟩
  · have hne : hkE g h ≠ 0 := by rw [← he]; simpa using q
    unfold hofL; rw [if_neg hne, he]
  · have hi := of_decide_eq_true hi
    have i0 := hI.1
    obtain ⟨e1, e2, e3⟩ := opMu_next hb i0 hi
    refine ⟨⟨i0, hi⟩, trivial, fun v hv => ⟨?_, ?_, e2, e3⟩⟩
    · show (l ++ [v]).length * 24 ≤ 140737488355328
      have : l.length ≤ g.length := by rw [hI.2.2]; unfold imgV; rw [List.length_map, List.length_take]; omega
      have : g.length * 96 ≤ 140737488355328 := hb
      rw [List.length_append]; simp only [List.length_singleton]; omega
    · rw [e1]
      refine ⟨by omega, by omega, ?_⟩
      rw [take_succ i0 hi zerO]
      unfold imgV
      rw [List.map_append, hI.2.2, hv]; rfl
  · have hz : hkE g h = 0 := by rw [← he]; simpa using q
    have hl : l = imgV g h := by rw [hI.2.2, take_end (of_decide_eq_false hi)]
    refine compact_V (srtV l) ?_ (fun x => (x, ((0 : Int), ())) = (hofL g h, (hkE g h, ()))) ?_
    · show (insG cmpV l).length * 24 ≤ 140737488355328
      rw [insG_len]; exact hfit
    · unfold hofL unqG; rw [if_pos hz, hz, hl]; rfl
theorem s_hOf : Sound Try.prog 28 C_hOf :=
  sound_of_eq (env1_ok (.cons s_hcheck.hid (.cons s_hturned.hid (.nil)))) (fun x => T_hOf x.1 x.2.1) r_hOf fun x ok hp => p_hOf x.1 x.2.1 ok.1 ok.2.1
end Go.Fx
