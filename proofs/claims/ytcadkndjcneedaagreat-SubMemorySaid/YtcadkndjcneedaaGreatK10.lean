/-
  Contracts: sClasses, sHeart.
-/
import Derived.Test.YtcadkndjcneedaaGreatK9
namespace Go.Fx
open Go Go.Proofs
set_option maxRecDepth 100000
set_option linter.unusedVariables false
set_option linter.unusedSimpArgs false
set_option linter.unusedSectionVars false
noncomputable def C_sClasses : Contract := { args := [.list .op], res := [.lists .int, .int .i64], pre := fun _ => True, F := fun x => ((clC x.1 : List (List Int)), (chkE x.1 : Int), ()) }
def T_sClasses (g : List Op3) : Prop :=
  (True ∧
∀ z1 : List (List Int),
(z1 = tabL g →
∀ z3 : Int,
(z3 = chkE g →
(((!(decide (z3 = 0))) = true →
 ([], (z3, ())) = (clC g, (chkE g, ()))) ∧
((!(decide (z3 = 0))) = false →
(True ∧
∀ z6 : List Int,
(z6 = invL g →
∀ z8 : Int,
(z8 = chkE g →
(((!(decide (z8 = 0))) = true →
 ([], (z8, ())) = (clC g, (chkE g, ()))) ∧
((!(decide (z8 = 0))) = false →
((leP 0 (g.length : Int) ∧
 lfit 1 ((lrep (g.length : Int) false))) ∧
(clO g ((lrep (g.length : Int) false)) [] 0 ∧
∀ z11 : List Bool,
∀ z12 : List (List Int),
∀ z13 : Int,
((decide ((-9223372036854775808) ≤ z13)) = true →
((decide (z13 ≤ 9223372036854775807)) = true →
(clO g z11 z12 z13 →
(eqP (z11.length : Int) ((((lrep (g.length : Int) false)).length : Int)) →
(lfit 24 z12 →
(((decide (z13 < (g.length : Int))) = true →
 (inB z11 z13 ∧
 (((z11.getD (z13).toNat false) = true →
  (clO g z11 z12 ((w64 (z13 + 1))) ∧
  ((decide (0 ≤ opMu g ((w64 (z13 + 1))))) = true ∧
  (decide (opMu g ((w64 (z13 + 1))) < opMu g z13)) = true))) ∧
 ((z11.getD (z13).toNat false) = false →
 (clI g z13 z11 [] 0 ∧
 ∀ z21 : List Bool,
 ∀ z22 : List Int,
 ∀ z23 : Int,
 ((decide ((-9223372036854775808) ≤ z23)) = true →
 ((decide (z23 ≤ 9223372036854775807)) = true →
 (clI g z13 z21 z22 z23 →
 (eqP (z21.length : Int) (z11.length : Int) →
 (lfit 8 z22 →
 (((decide (z23 < (g.length : Int))) = true →
  (inB z1 z23 ∧
  (inB ((z1.getD (z23).toNat [])) z13 ∧
  (inB z1 ((((z1.getD (z23).toNat [])).getD (z13).toNat 0)) ∧
  (inB z6 z23 ∧
  (inB ((z1.getD ((((z1.getD (z23).toNat [])).getD (z13).toNat 0)).toNat [])) ((z6.getD (z23).toNat 0)) ∧
  (inB z21 ((((z1.getD ((((z1.getD (z23).toNat [])).getD (z13).toNat 0)).toNat [])).getD ((z6.getD (z23).toNat 0)).toNat 0)) ∧
  (((!(z21.getD ((((z1.getD ((((z1.getD (z23).toNat [])).getD (z13).toNat 0)).toNat [])).getD ((z6.getD (z23).toNat 0)).toNat 0)).toNat false)) = true →
   (inB z21 ((((z1.getD ((((z1.getD (z23).toNat [])).getD (z13).toNat 0)).toNat [])).getD ((z6.getD (z23).toNat 0)).toNat 0)) ∧
   (lfit 8 (lapp z22 ([(((z1.getD ((((z1.getD (z23).toNat [])).getD (z13).toNat 0)).toNat [])).getD ((z6.getD (z23).toNat 0)).toNat 0)])) ∧
   (clI g z13 (lset z21 ((((z1.getD ((((z1.getD (z23).toNat [])).getD (z13).toNat 0)).toNat [])).getD ((z6.getD (z23).toNat 0)).toNat 0)) true) (lapp z22 ([(((z1.getD ((((z1.getD (z23).toNat [])).getD (z13).toNat 0)).toNat [])).getD ((z6.getD (z23).toNat 0)).toNat 0)])) ((w64 (z23 + 1))) ∧
   ((decide (0 ≤ opMu g ((w64 (z23 + 1))))) = true ∧
   (decide (opMu g ((w64 (z23 + 1))) < opMu g z23)) = true))))) ∧
  ((!(z21.getD ((((z1.getD ((((z1.getD (z23).toNat [])).getD (z13).toNat 0)).toNat [])).getD ((z6.getD (z23).toNat 0)).toNat 0)).toNat false)) = false →
  (clI g z13 z21 z22 ((w64 (z23 + 1))) ∧
  ((decide (0 ≤ opMu g ((w64 (z23 + 1))))) = true ∧
  (decide (opMu g ((w64 (z23 + 1))) < opMu g z23)) = true))))))))))) ∧
 ((decide (z23 < (g.length : Int))) = false →
 (True ∧
 (lfit 24 (lapp z12 ([srtI z22])) ∧
 (clO g z21 (lapp z12 ([srtI z22])) ((w64 (z13 + 1))) ∧
 ((decide (0 ≤ opMu g ((w64 (z13 + 1))))) = true ∧
 (decide (opMu g ((w64 (z13 + 1))) < opMu g z13)) = true)))))))))))))))) ∧
((decide (z13 < (g.length : Int))) = false →
(z12, (0, ())) = (clC g, (chkE g, ())))))))))))))))))))))
theorem r_sClasses (x : HL C_sClasses.args) : runs (env1 [(27, C_gTable.hid), (30, C_gInverses.hid)] [(10, 10, { fix := [], vars := [(.itmp 7, .list .bool), (.tmp 8, .lists .int), (.tmp 34, .int .i64)], inv := fun y v => clO x.1 v.1 v.2.1 v.2.2.1, mu := fun y v => opMu x.1 v.2.2.1 }), (10, 15, { fix := [(.tmp 34, .int .i64)], vars := [(.itmp 7, .list .bool), (.tmp 10, .list .int), (.tmp 43, .int .i64)], inv := fun y v => clI x.1 y.1 v.1 v.2.1 v.2.2.1, mu := fun y v => opMu x.1 v.2.2.1 })] []) 1500 10 C_sClasses x = T_sClasses x.1 := by kernel_rfl
theorem p_sClasses (g : List Op3) (h0 : (Sh.list .op).okA g) : T_sClasses g := by
  have hb : g.length * 96 ≤ room := h0.2
  unfold T_sClasses
  refine ⟨trivial, fun t ht e he => ⟨fun hq => ?_, fun hq => ?_⟩⟩
  · have hne : chkE g ≠ 0 := by rw [← he]; simpa using hq
    unfold clC
    rw [if_neg hne, he]
  have hg : chkE g = 0 := by rw [← he]; simpa using hq
  have h192 := chk_len hg
  subst ht
  refine ⟨trivial, fun v hv e2 he2 => ⟨fun hq2 => absurd hq2 (by rw [he2, hg]; decide), fun _ => ⟨⟨by show (0 : Int) ≤ _; omega, by show (lrep (g.length : Int) false).length * 1 ≤ 140737488355328; simp [lrep]; omega⟩, cl_0 hg, fun d r b _ _ hO hd hr => ⟨fun hbi => ?_, fun hbi => ?_⟩⟩⟩⟩
  · subst hv
    have hbi := of_decide_eq_true hbi
    have b0 := hO.1.1
    refine ⟨⟨b0, by rw [hO.2.1, dn_len]; exact hbi⟩, fun hda => cl_skip hg hb hO hbi hda, fun hda => ⟨cl_in hg hO, fun e c a _ _ hI he2 hc => ⟨fun ha => ?_, fun ha => ⟨trivial, cl_done hg hb hO hbi hda hI (of_decide_eq_false ha)⟩⟩⟩⟩
    have ha := of_decide_eq_true ha
    obtain ⟨t1, t2, t3, t4, t5, t6⟩ := cl_at hg hI.1.1 ha b0 hbi
    rw [t6]
    obtain ⟨n1, n2, n3, n4⟩ := cl_next hg hb b0 hbi (cl_lo hg hO hbi hda) hI ha rfl
    exact ⟨t1, t2, t3, t4, t5, n1, fun q => ⟨n1, (n2 (by simpa using q)).1, (n2 (by simpa using q)).2, n4⟩, fun q => ⟨n3 (by simpa using q), n4⟩⟩
  · rw [cl_end hg hO (of_decide_eq_false hbi), hg]
theorem s_sClasses : Sound Tryz.prog 10 C_sClasses :=
  sound_of_eqs (fun x => env1 [(27, C_gTable.hid), (30, C_gInverses.hid)] [(10, 10, { fix := [], vars := [(.itmp 7, .list .bool), (.tmp 8, .lists .int), (.tmp 34, .int .i64)], inv := fun y v => clO x.1 v.1 v.2.1 v.2.2.1, mu := fun y v => opMu x.1 v.2.2.1 }), (10, 15, { fix := [(.tmp 34, .int .i64)], vars := [(.itmp 7, .list .bool), (.tmp 10, .list .int), (.tmp 43, .int .i64)], inv := fun y v => clI x.1 y.1 v.1 v.2.1 v.2.2.1, mu := fun y v => opMu x.1 v.2.2.1 })] []) (fun _ => rfl) (fun _ => env1_ok (.cons s_gTable.hid (.cons s_gInverses.hid (.nil)))) (fun x => T_sClasses x.1) r_sClasses fun x ok hp => p_sClasses x.1 ok.1
noncomputable def C_sHeart : Contract := { args := [.list .op], res := [.list .op, .int .i64], pre := fun _ => True, F := fun x => ((heL x.1 : List Op3), (chkE x.1 : Int), ()) }
def T_sHeart (g : List Op3) : Prop :=
  (True ∧
∀ z1 : List (List Int),
(z1 = tabL g →
∀ z3 : Int,
(z3 = chkE g →
(((!(decide (z3 = 0))) = true →
 ([], (z3, ())) = (heL g, (chkE g, ()))) ∧
((!(decide (z3 = 0))) = false →
(heO g [] 0 ∧
∀ z6 : List Op3,
∀ z7 : Int,
((decide ((-9223372036854775808) ≤ z7)) = true →
((decide (z7 ≤ 9223372036854775807)) = true →
(heO g z6 z7 →
(lfit 96 z6 →
(((decide (z7 < (g.length : Int))) = true →
 (inB g z7 ∧
 (heI g z7 0 ∧
 ∀ z13 : Int,
 ((decide ((-9223372036854775808) ≤ z13)) = true →
 ((decide (z13 ≤ 9223372036854775807)) = true →
 (heI g z7 z13 →
 (((decide (z13 < (g.length : Int))) = true →
  (inB z1 z7 ∧
  (inB ((z1.getD (z7).toNat [])) z13 ∧
  (inB z1 z13 ∧
  (inB ((z1.getD (z13).toNat [])) z7 ∧
  (((!(decide ((((z1.getD (z7).toNat [])).getD (z13).toNat 0) = (((z1.getD (z13).toNat [])).getD (z7).toNat 0)))) = true →
   (heO g z6 ((w64 (z7 + 1))) ∧
   ((decide (0 ≤ opMu g ((w64 (z7 + 1))))) = true ∧
   (decide (opMu g ((w64 (z7 + 1))) < opMu g z7)) = true))) ∧
  ((!(decide ((((z1.getD (z7).toNat [])).getD (z13).toNat 0) = (((z1.getD (z13).toNat [])).getD (z7).toNat 0)))) = false →
  (heI g z7 ((w64 (z13 + 1))) ∧
  ((decide (0 ≤ opMu g ((w64 (z13 + 1))))) = true ∧
  (decide (opMu g ((w64 (z13 + 1))) < opMu g z13)) = true))))))))) ∧
 ((decide (z13 < (g.length : Int))) = false →
 (lfit 96 (lapp z6 ([((g.getD (z7).toNat zerO))])) ∧
 (heO g (lapp z6 ([((g.getD (z7).toNat zerO))])) ((w64 (z7 + 1))) ∧
 ((decide (0 ≤ opMu g ((w64 (z7 + 1))))) = true ∧
 (decide (opMu g ((w64 (z7 + 1))) < opMu g z7)) = true))))))))))) ∧
((decide (z7 < (g.length : Int))) = false →
(z6, (0, ())) = (heL g, (chkE g, ()))))))))))))))
theorem r_sHeart (x : HL C_sHeart.args) : runs (env0 [(27, C_gTable.hid)] [(8, 6, { fix := [], vars := [(.tmp 6, .list .op), (.tmp 20, .int .i64)], inv := fun y v => heO x.1 v.1 v.2.1, mu := fun y v => opMu x.1 v.2.1 }), (8, 9, { fix := [(.tmp 20, .int .i64)], vars := [(.tmp 27, .int .i64)], inv := fun y v => heI x.1 y.1 v.1, mu := fun y v => opMu x.1 v.1 })] []) 400 8 C_sHeart x = T_sHeart x.1 := by kernel_rfl
theorem p_sHeart (g : List Op3) (h0 : (Sh.list .op).okA g) : T_sHeart g := by
  have hb : g.length * 96 ≤ room := h0.2
  unfold T_sHeart
  refine ⟨trivial, fun t ht e he => ⟨fun hq => ?_, fun hq => ?_⟩⟩
  · have hne : chkE g ≠ 0 := by rw [← he]; simpa using hq
    unfold heL
    rw [if_neg hne, he]
  have hg : chkE g = 0 := by rw [← he]; simpa using hq
  subst ht
  refine ⟨he_0 g, fun l i _ _ hO hl => ⟨fun hi => ?_, fun hi => ?_⟩⟩
  · have hi := of_decide_eq_true hi
    have i0 := hO.1.1
    refine ⟨⟨i0, hi⟩, he_in g i, fun j _ _ hI => ⟨fun hj => ?_, fun hj => he_add hb hO hi hI (of_decide_eq_false hj)⟩⟩
    have hj := of_decide_eq_true hj
    obtain ⟨t1, t2, t3, t4, t5⟩ := he_at hg i0 hi hI.1.1 hj
    rw [t5]
    exact ⟨t1, t2, t3, t4, fun q => he_skip hb hO hi (he_bad (getD_mem hI.1.1 hj zerO) (by simpa using q)), fun q => he_next hb hI hj (by simpa using q)⟩
  · rw [he_end hg hO (of_decide_eq_false hi), hg]
theorem s_sHeart : Sound Tryz.prog 8 C_sHeart :=
  sound_of_eqs (fun x => env0 [(27, C_gTable.hid)] [(8, 6, { fix := [], vars := [(.tmp 6, .list .op), (.tmp 20, .int .i64)], inv := fun y v => heO x.1 v.1 v.2.1, mu := fun y v => opMu x.1 v.2.1 }), (8, 9, { fix := [(.tmp 20, .int .i64)], vars := [(.tmp 27, .int .i64)], inv := fun y v => heI x.1 y.1 v.1, mu := fun y v => opMu x.1 v.1 })] []) (fun _ => rfl) (fun _ => env0_ok (.cons s_gTable.hid (.nil))) (fun x => T_sHeart x.1) r_sHeart fun x ok hp => p_sHeart x.1 ok.1
end Go.Fx
