/-
  Contracts: sCosets, sNormal.
-/
import Derived.Test.YtcadkndjcneedaaGreatK7
namespace Go.Fx
open Go Go.Proofs
set_option maxRecDepth 100000
set_option linter.unusedVariables false
set_option linter.unusedSimpArgs false
set_option linter.unusedSectionVars false
noncomputable def C_sCosets : Contract := { args := [.list .op, .list .op], res := [.lists .int, .int .i64], pre := fun _ => True, F := fun x => ((csC x.1 x.2.1 : List (List Int)), (boE x.1 x.2.1 : Int), ()) }
def T_sCosets (g : List Op3) (h : List Op3) : Prop :=
  (True ∧
∀ z2 : List (List Int),
(z2 = boT g h →
∀ z4 : List Int,
(z4 = boL g h →
∀ z6 : Int,
(z6 = boE g h →
(((!(decide (z6 = 0))) = true →
 ([], (z6, ())) = (csC g h, (boE g h, ()))) ∧
((!(decide (z6 = 0))) = false →
((leP 0 (g.length : Int) ∧
 lfit 1 ((lrep (g.length : Int) false))) ∧
(csO g h ((lrep (g.length : Int) false)) [] 0 ∧
∀ z9 : List Bool,
∀ z10 : List (List Int),
∀ z11 : Int,
((decide ((-9223372036854775808) ≤ z11)) = true →
((decide (z11 ≤ 9223372036854775807)) = true →
(csO g h z9 z10 z11 →
(eqP (z9.length : Int) ((((lrep (g.length : Int) false)).length : Int)) →
(lfit 24 z10 →
(((decide (z11 < (g.length : Int))) = true →
 (inB z9 z11 ∧
 (((z9.getD (z11).toNat false) = true →
  (csO g h z9 z10 ((w64 (z11 + 1))) ∧
  ((decide (0 ≤ opMu g ((w64 (z11 + 1))))) = true ∧
  (decide (opMu g ((w64 (z11 + 1))) < opMu g z11)) = true))) ∧
 ((z9.getD (z11).toNat false) = false →
 (csI g h z11 z9 [] 0 ∧
 ∀ z19 : List Bool,
 ∀ z20 : List Int,
 ∀ z21 : Int,
 ((decide ((-9223372036854775808) ≤ z21)) = true →
 ((decide (z21 ≤ 9223372036854775807)) = true →
 (csI g h z11 z19 z20 z21 →
 (eqP (z19.length : Int) (z9.length : Int) →
 (lfit 8 z20 →
 (((decide (z21 < (z4.length : Int))) = true →
  (inB z4 z21 ∧
  (inB z2 z11 ∧
  (inB ((z2.getD (z11).toNat [])) ((z4.getD (z21).toNat 0)) ∧
  (inB z19 ((((z2.getD (z11).toNat [])).getD ((z4.getD (z21).toNat 0)).toNat 0)) ∧
  (inB z2 z11 ∧
  (inB ((z2.getD (z11).toNat [])) ((z4.getD (z21).toNat 0)) ∧
  (lfit 8 (lapp z20 ([(((z2.getD (z11).toNat [])).getD ((z4.getD (z21).toNat 0)).toNat 0)])) ∧
  (csI g h z11 (lset z19 ((((z2.getD (z11).toNat [])).getD ((z4.getD (z21).toNat 0)).toNat 0)) true) (lapp z20 ([(((z2.getD (z11).toNat [])).getD ((z4.getD (z21).toNat 0)).toNat 0)])) ((w64 (z21 + 1))) ∧
  ((decide (0 ≤ opMu h ((w64 (z21 + 1))))) = true ∧
  (decide (opMu h ((w64 (z21 + 1))) < opMu h z21)) = true)))))))))) ∧
 ((decide (z21 < (z4.length : Int))) = false →
 (True ∧
 (lfit 24 (lapp z10 ([srtI z20])) ∧
 (csO g h z19 (lapp z10 ([srtI z20])) ((w64 (z11 + 1))) ∧
 ((decide (0 ≤ opMu g ((w64 (z11 + 1))))) = true ∧
 (decide (opMu g ((w64 (z11 + 1))) < opMu g z11)) = true)))))))))))))))) ∧
((decide (z11 < (g.length : Int))) = false →
(z10, (0, ())) = (csC g h, (boE g h, ())))))))))))))))))
theorem r_sCosets (x : HL C_sCosets.args) : runs (env1 [(28, C_sboth.hid)] [(9, 7, { fix := [], vars := [(.itmp 9, .list .bool), (.tmp 10, .lists .int), (.tmp 30, .int .i64)], inv := fun y v => csO x.1 x.2.1 v.1 v.2.1 v.2.2.1, mu := fun y v => opMu x.1 v.2.2.1 }), (9, 12, { fix := [(.tmp 30, .int .i64)], vars := [(.itmp 9, .list .bool), (.tmp 12, .list .int), (.tmp 39, .int .i64)], inv := fun y v => csI x.1 x.2.1 y.1 v.1 v.2.1 v.2.2.1, mu := fun y v => opMu x.2.1 v.2.2.1 })] []) 1500 9 C_sCosets x = T_sCosets x.1 x.2.1 := by kernel_rfl
theorem p_sCosets (g : List Op3) (h : List Op3) (h0 : (Sh.list .op).okA g) (h1 : (Sh.list .op).okA h) : T_sCosets g h := by
  have hb : g.length * 96 ≤ room := h0.2
  have hb2 : h.length * 96 ≤ room := h1.2
  unfold T_sCosets
  refine ⟨trivial, fun t ht l hl e he => ⟨fun hq => ?_, fun hq => ?_⟩⟩
  · have hne : boE g h ≠ 0 := by rw [← he]; simpa using hq
    unfold csC
    rw [if_neg hne, he]
  have hz : boE g h = 0 := by rw [← he]; simpa using hq
  obtain ⟨hg, hh, hs, e1, e2⟩ := bo_zero hz
  rw [e1] at ht
  rw [e2] at hl
  subst ht hl
  have h192 := chk_len hg
  refine ⟨⟨by show (0 : Int) ≤ _; omega, by show (lrep (g.length : Int) false).length * 1 ≤ 140737488355328; simp [lrep]; omega⟩, cs_0 hg hh hs, fun d r a _ _ hO hd hr => ⟨fun ha => ?_, fun ha => ?_⟩⟩
  · have ha := of_decide_eq_true ha
    have a0 := hO.1.1
    refine ⟨⟨a0, by rw [hO.2.1, dn_len]; exact ha⟩, fun hda => cs_skip hg hh hs hb hO ha hda, fun hda => ⟨cs_in hg hh hs hO, fun e c j _ _ hI he2 hc => ⟨fun hj => ?_, fun hj => ⟨trivial, cs_done hg hh hs hb hO ha hda hI (by rw [List.length_map] at hj; exact of_decide_eq_false hj)⟩⟩⟩⟩
    have hj := of_decide_eq_true hj
    rw [List.length_map] at hj
    obtain ⟨m1, t1, t2, t3, _⟩ := cs_at hg hh hs a0 ha hI.1.1 hj
    rw [t3]
    obtain ⟨n1, n2, n3⟩ := cs_next hg hh hs hb2 a0 ha hI hj rfl
    exact ⟨m1, t1, t2, n1, t1, t2, n2, n3⟩
  · rw [cs_end hz hO (of_decide_eq_false ha), hz]
theorem s_sCosets : Sound Tryz.prog 9 C_sCosets :=
  sound_of_eqs (fun x => env1 [(28, C_sboth.hid)] [(9, 7, { fix := [], vars := [(.itmp 9, .list .bool), (.tmp 10, .lists .int), (.tmp 30, .int .i64)], inv := fun y v => csO x.1 x.2.1 v.1 v.2.1 v.2.2.1, mu := fun y v => opMu x.1 v.2.2.1 }), (9, 12, { fix := [(.tmp 30, .int .i64)], vars := [(.itmp 9, .list .bool), (.tmp 12, .list .int), (.tmp 39, .int .i64)], inv := fun y v => csI x.1 x.2.1 y.1 v.1 v.2.1 v.2.2.1, mu := fun y v => opMu x.2.1 v.2.2.1 })] []) (fun _ => rfl) (fun _ => env1_ok (.cons s_sboth.hid (.nil))) (fun x => T_sCosets x.1 x.2.1) r_sCosets fun x ok hp => p_sCosets x.1 x.2.1 ok.1 ok.2.1
noncomputable def C_sNormal : Contract := { args := [.list .op, .list .op], res := [.bool, .int .i64], pre := fun _ => True, F := fun x => ((noB x.1 x.2.1 : Bool), (boE x.1 x.2.1 : Int), ()) }
def T_sNormal (g : List Op3) (h : List Op3) : Prop :=
  (True ∧
∀ z2 : List (List Int),
(z2 = boT g h →
∀ z4 : List Int,
(z4 = boL g h →
∀ z6 : Int,
(z6 = boE g h →
(((!(decide (z6 = 0))) = true →
 (false, (z6, ())) = (noB g h, (boE g h, ()))) ∧
((!(decide (z6 = 0))) = false →
(noO g h true 0 ∧
∀ z9 : Bool,
∀ z10 : Int,
((decide ((-9223372036854775808) ≤ z10)) = true →
((decide (z10 ≤ 9223372036854775807)) = true →
(noO g h z9 z10 →
(((decide (z10 < (g.length : Int))) = true →
 (noI g h z10 [] [] 0 ∧
 ∀ z15 : List Int,
 ∀ z16 : List Int,
 ∀ z17 : Int,
 ((decide ((-9223372036854775808) ≤ z17)) = true →
 ((decide (z17 ≤ 9223372036854775807)) = true →
 (noI g h z10 z15 z16 z17 →
 (lfit 8 z15 →
 (lfit 8 z16 →
 (((decide (z17 < (z4.length : Int))) = true →
  (inB z4 z17 ∧
  (inB z2 z10 ∧
  (inB ((z2.getD (z10).toNat [])) ((z4.getD (z17).toNat 0)) ∧
  (lfit 8 (lapp z15 ([(((z2.getD (z10).toNat [])).getD ((z4.getD (z17).toNat 0)).toNat 0)])) ∧
  (inB z2 ((z4.getD (z17).toNat 0)) ∧
  (inB ((z2.getD ((z4.getD (z17).toNat 0)).toNat [])) z10 ∧
  (lfit 8 (lapp z16 ([(((z2.getD ((z4.getD (z17).toNat 0)).toNat [])).getD (z10).toNat 0)])) ∧
  (noI g h z10 (lapp z15 ([(((z2.getD (z10).toNat [])).getD ((z4.getD (z17).toNat 0)).toNat 0)])) (lapp z16 ([(((z2.getD ((z4.getD (z17).toNat 0)).toNat [])).getD (z10).toNat 0)])) ((w64 (z17 + 1))) ∧
  ((decide (0 ≤ opMu h ((w64 (z17 + 1))))) = true ∧
  (decide (opMu h ((w64 (z17 + 1))) < opMu h z17)) = true)))))))))) ∧
 ((decide (z17 < (z4.length : Int))) = false →
 (True ∧
 (True ∧
 (noS (srtI z15) (srtI z16) z9 0 ∧
 ∀ z24 : Bool,
 ∀ z25 : Int,
 ((decide ((-9223372036854775808) ≤ z25)) = true →
 ((decide (z25 ≤ 9223372036854775807)) = true →
 (noS (srtI z15) (srtI z16) z24 z25 →
 (((decide (z25 < ((srtI z15).length : Int))) = true →
  (inB (srtI z15) z25 ∧
  (inB (srtI z16) z25 ∧
  (((!(decide (((srtI z15).getD (z25).toNat 0) = ((srtI z16).getD (z25).toNat 0)))) = true →
   (false, (0, ())) = (noB g h, (boE g h, ()))) ∧
  ((!(decide (((srtI z15).getD (z25).toNat 0) = ((srtI z16).getD (z25).toNat 0)))) = false →
  (noS (srtI z15) (srtI z16) z24 ((w64 (z25 + 1))) ∧
  ((decide (0 ≤ inMu (srtI z15) ((w64 (z25 + 1))))) = true ∧
  (decide (inMu (srtI z15) ((w64 (z25 + 1))) < inMu (srtI z15) z25)) = true))))))) ∧
 ((decide (z25 < ((srtI z15).length : Int))) = false →
 (noO g h z24 ((w64 (z10 + 1))) ∧
 ((decide (0 ≤ opMu g ((w64 (z10 + 1))))) = true ∧
 (decide (opMu g ((w64 (z10 + 1))) < opMu g z10)) = true))))))))))))))))))) ∧
((decide (z10 < (g.length : Int))) = false →
(z9, (0, ())) = (noB g h, (boE g h, ()))))))))))))))
theorem r_sNormal (x : HL C_sNormal.args) : runs (env1 [(28, C_sboth.hid)] [(12, 6, { fix := [], vars := [(.tmp 9, .bool), (.tmp 28, .int .i64)], inv := fun y v => noO x.1 x.2.1 v.1 v.2.1, mu := fun y v => opMu x.1 v.2.1 }), (12, 10, { fix := [(.tmp 28, .int .i64)], vars := [(.tmp 11, .list .int), (.tmp 12, .list .int), (.tmp 33, .int .i64)], inv := fun y v => noI x.1 x.2.1 y.1 v.1 v.2.1 v.2.2.1, mu := fun y v => opMu x.2.1 v.2.2.1 }), (12, 17, { fix := [(.tmp 11, .list .int), (.tmp 12, .list .int)], vars := [(.tmp 9, .bool), (.tmp 64, .int .i64)], inv := fun y v => noS y.1 y.2.1 v.1 v.2.1, mu := fun y v => inMu y.1 v.2.1 })] []) 1500 12 C_sNormal x = T_sNormal x.1 x.2.1 := by kernel_rfl
theorem p_sNormal (g : List Op3) (h : List Op3) (h0 : (Sh.list .op).okA g) (h1 : (Sh.list .op).okA h) : T_sNormal g h := by
  have hb : g.length * 96 ≤ room := h0.2
  have hb2 : h.length * 96 ≤ room := h1.2
  unfold T_sNormal
  refine ⟨trivial, fun t ht l hl e he => ⟨fun hq => ?_, fun hq => ?_⟩⟩
  · have hne : boE g h ≠ 0 := by rw [← he]; simpa using hq
    unfold noB
    rw [if_neg hne, he]
  have hz : boE g h = 0 := by rw [← he]; simpa using hq
  obtain ⟨hg, hh, hs, e1, e2⟩ := bo_zero hz
  rw [e1] at ht
  rw [e2] at hl
  subst ht hl
  have h192 := chk_len hh
  refine ⟨no_0 g h, fun b a _ _ hO => ⟨fun ha => ?_, fun ha => ?_⟩⟩
  · have ha := of_decide_eq_true ha
    have a0 := hO.1.1
    refine ⟨no_in g h a, fun l r j _ _ hI hl hr => ⟨fun hj => ?_, fun hj => ?_⟩⟩
    · have hj := of_decide_eq_true hj
      rw [List.length_map] at hj
      obtain ⟨m1, t1, t2, t3, t4, t5, t6⟩ := cs_at hg hh hs a0 ha hI.1.1 hj
      rw [t3, t6]
      obtain ⟨n1, n2, n3⟩ := no_next hb2 hI hj
      exact ⟨m1, t1, t2, n1, t4, t5, n2, n3⟩
    · have hj := of_decide_eq_false hj
      rw [List.length_map] at hj
      obtain ⟨f1, f2, f3, f4⟩ := no_full hI hj
      refine ⟨trivial, trivial, by rw [hO.2.1]; exact ns_0 _ _, fun b2 i _ _ hS => ⟨fun hi => ?_, fun hi => ?_⟩⟩
      · have hi := of_decide_eq_true hi
        refine ⟨⟨hS.1.1, hi⟩, ⟨hS.1.1, by omega⟩, fun hne => ?_, fun heq => ns_next (by rw [f3]; unfold room; omega) hS hi (by simpa using heq)⟩
        have hne : srtI l ≠ srtI r := fun c => by rw [c] at hne; simp at hne
        rw [f1, f2] at hne
        rw [no_bad hz a0 ha hne, hz]
      · have heq := ns_end (f3.trans f4.symm) hS (of_decide_eq_false hi)
        rw [f1, f2] at heq
        exact no_step hb hO ha heq hS.2.1
  · rw [no_end hz hO (of_decide_eq_false ha), hz]
theorem s_sNormal : Sound Tryz.prog 12 C_sNormal :=
  sound_of_eqs (fun x => env1 [(28, C_sboth.hid)] [(12, 6, { fix := [], vars := [(.tmp 9, .bool), (.tmp 28, .int .i64)], inv := fun y v => noO x.1 x.2.1 v.1 v.2.1, mu := fun y v => opMu x.1 v.2.1 }), (12, 10, { fix := [(.tmp 28, .int .i64)], vars := [(.tmp 11, .list .int), (.tmp 12, .list .int), (.tmp 33, .int .i64)], inv := fun y v => noI x.1 x.2.1 y.1 v.1 v.2.1 v.2.2.1, mu := fun y v => opMu x.2.1 v.2.2.1 }), (12, 17, { fix := [(.tmp 11, .list .int), (.tmp 12, .list .int)], vars := [(.tmp 9, .bool), (.tmp 64, .int .i64)], inv := fun y v => noS y.1 y.2.1 v.1 v.2.1, mu := fun y v => inMu y.1 v.2.1 })] []) (fun _ => rfl) (fun _ => env1_ok (.cons s_sboth.hid (.nil))) (fun x => T_sNormal x.1 x.2.1) r_sNormal fun x ok hp => p_sNormal x.1 x.2.1 ok.1 ok.2.1
end Go.Fx
