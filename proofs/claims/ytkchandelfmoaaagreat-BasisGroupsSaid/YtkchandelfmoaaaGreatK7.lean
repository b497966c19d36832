/-
  Contracts: bGroup.
-/
import Derived.Test.YtkchandelfmoaaaGreatK6
import Derived.Test.YtkchandelfmoaaaGreatKm
namespace Go.Fx
open Go Go.Proofs
set_option maxRecDepth 100000
set_option linter.unusedVariables false
set_option linter.unusedSimpArgs false
set_option linter.unusedSectionVars false
noncomputable def C_bGroup : Contract := { args := [.agg .chg, .list .op], res := [.list .op, .int .i64], pre := fun _ => True, F := fun x => ((bgL x.1 x.2.1 : List Op3), (bgE x.1 x.2.1 : Int), ()) }
def T_bGroup (c : Chg) (g : List Op3) : Prop :=
  (True ∧
∀ z2 : M3,
(z2 = selM (uniE c.P) (wM (scaZ (detZ c.P) (adjZ c.P))) →
∀ z4 : Int,
(z4 = uniE c.P →
(True ∧
∀ z6 : Int,
(z6 = chkE g →
(((decide (z4 = 0)) = true →
 (((!(decide (z6 = 0))) = true →
  ([], (z6, ())) = (bgL c g, (bgE c g, ()))) ∧
 ((!(decide (z6 = 0))) = false →
 (bgI c g [] 0 ∧
 ∀ z10 : List Op3,
 ∀ z11 : Int,
 ((decide ((-9223372036854775808) ≤ z11)) = true →
 ((decide (z11 ≤ 9223372036854775807)) = true →
 (bgI c g z10 z11 →
 (lfit 96 z10 →
 (((decide (z11 < (g.length : Int))) = true →
  (inB g z11 ∧
  (True ∧
  ∀ z17 : Op3,
  (z17 = tolW c z2 (((g.getD (z11).toNat zerO))) →
  (True ∧
  (((!(decide (errM z17.R = 0))) = true →
   ([], (errM z17.R, ())) = (bgL c g, (bgE c g, ()))) ∧
  ((!(decide (errM z17.R = 0))) = false →
  (lfit 96 (lapp z10 [z17]) ∧
  (bgI c g (lapp z10 [z17]) ((w64 (z11 + 1))) ∧
  ((decide (0 ≤ opMu g ((w64 (z11 + 1))))) = true ∧
  (decide (opMu g ((w64 (z11 + 1))) < opMu g z11)) = true)))))))))) ∧
 ((decide (z11 < (g.length : Int))) = false →
 (True ∧
 (sortO z10, (0, ())) = (bgL c g, (bgE c g, ()))))))))))))) ∧
((decide (z4 = 0)) = false →
(((!(decide (z6 = 0))) = true →
 (((decide (z6 < z4)) = true →
  (((!(decide (z6 = 0))) = true →
   ([], (z6, ())) = (bgL c g, (bgE c g, ()))) ∧
  ((!(decide (z6 = 0))) = false →
  (bgI c g [] 0 ∧
  ∀ z12 : List Op3,
  ∀ z13 : Int,
  ((decide ((-9223372036854775808) ≤ z13)) = true →
  ((decide (z13 ≤ 9223372036854775807)) = true →
  (bgI c g z12 z13 →
  (lfit 96 z12 →
  (((decide (z13 < (g.length : Int))) = true →
   (inB g z13 ∧
   (True ∧
   ∀ z19 : Op3,
   (z19 = tolW c z2 (((g.getD (z13).toNat zerO))) →
   (True ∧
   (((!(decide (errM z19.R = 0))) = true →
    ([], (errM z19.R, ())) = (bgL c g, (bgE c g, ()))) ∧
   ((!(decide (errM z19.R = 0))) = false →
   (lfit 96 (lapp z12 [z19]) ∧
   (bgI c g (lapp z12 [z19]) ((w64 (z13 + 1))) ∧
   ((decide (0 ≤ opMu g ((w64 (z13 + 1))))) = true ∧
   (decide (opMu g ((w64 (z13 + 1))) < opMu g z13)) = true)))))))))) ∧
  ((decide (z13 < (g.length : Int))) = false →
  (True ∧
  (sortO z12, (0, ())) = (bgL c g, (bgE c g, ()))))))))))))) ∧
 ((decide (z6 < z4)) = false →
 (((!(decide (z4 = 0))) = true →
  ([], (z4, ())) = (bgL c g, (bgE c g, ()))) ∧
 ((!(decide (z4 = 0))) = false →
 (bgI c g [] 0 ∧
 ∀ z12 : List Op3,
 ∀ z13 : Int,
 ((decide ((-9223372036854775808) ≤ z13)) = true →
 ((decide (z13 ≤ 9223372036854775807)) = true →
 (bgI c g z12 z13 →
 (lfit 96 z12 →
 (((decide (z13 < (g.length : Int))) = true →
  (inB g z13 ∧
  (True ∧
  ∀ z19 : Op3,
  (z19 = tolW c z2 (((g.getD (z13).toNat zerO))) →
  (True ∧
  (((!(decide (errM z19.R = 0))) = true →
   ([], (errM z19.R, ())) = (bgL c g, (bgE c g, ()))) ∧
  ((!(decide (errM z19.R = 0))) = false →
  (lfit 96 (lapp z12 [z19]) ∧
  (bgI c g (lapp z12 [z19]) ((w64 (z13 + 1))) ∧
  ((decide (0 ≤ opMu g ((w64 (z13 + 1))))) = true ∧
  (decide (opMu g ((w64 (z13 + 1))) < opMu g z13)) = true)))))))))) ∧
 ((decide (z13 < (g.length : Int))) = false →
 (True ∧
 (sortO z12, (0, ())) = (bgL c g, (bgE c g, ()))))))))))))))) ∧
((!(decide (z6 = 0))) = false →
(((!(decide (z4 = 0))) = true →
 ([], (z4, ())) = (bgL c g, (bgE c g, ()))) ∧
((!(decide (z4 = 0))) = false →
(bgI c g [] 0 ∧
∀ z11 : List Op3,
∀ z12 : Int,
((decide ((-9223372036854775808) ≤ z12)) = true →
((decide (z12 ≤ 9223372036854775807)) = true →
(bgI c g z11 z12 →
(lfit 96 z11 →
(((decide (z12 < (g.length : Int))) = true →
 (inB g z12 ∧
 (True ∧
 ∀ z18 : Op3,
 (z18 = tolW c z2 (((g.getD (z12).toNat zerO))) →
 (True ∧
 (((!(decide (errM z18.R = 0))) = true →
  ([], (errM z18.R, ())) = (bgL c g, (bgE c g, ()))) ∧
 ((!(decide (errM z18.R = 0))) = false →
 (lfit 96 (lapp z11 [z18]) ∧
 (bgI c g (lapp z11 [z18]) ((w64 (z12 + 1))) ∧
 ((decide (0 ≤ opMu g ((w64 (z12 + 1))))) = true ∧
 (decide (opMu g ((w64 (z12 + 1))) < opMu g z12)) = true)))))))))) ∧
((decide (z12 < (g.length : Int))) = false →
(True ∧
(sortO z11, (0, ())) = (bgL c g, (bgE c g, ())))))))))))))))))))))
theorem r_bGroup (x : HL C_bGroup.args) : runs (env1 [(40, C_Inverse.hid), (19, C_gCheck.hid), (20, C_btold.hid), (21, C_check)] [(7, 7, { fix := [(.tmp 25, .list .op)], vars := [(.tmp 8, .list .op), (.tmp 27, .int .i64)], inv := fun y v => bgI x.1 y.1 v.1 v.2.1, mu := fun y v => opMu y.1 v.2.1 })] []) 400 7 C_bGroup x = T_bGroup x.1 x.2.1 := by kernel_rfl
theorem p_bGroup (c : Chg) (g : List Op3) (h0 : (Sh.agg .chg).okA c) (h1 : (Sh.list .op).okA g) : T_bGroup c g := by
  have hb : g.length * 96 ≤ room := h1.2
  have main : lst2 (uniE c.P) (chkE g) = 0 → ∀ z2 : M3, z2 = selM (uniE c.P) (wM (scaZ (detZ c.P) (adjZ c.P))) → (bgI c g [] 0 ∧ ∀ l : List Op3, ∀ i : Int, (decide ((-9223372036854775808) ≤ i)) = true → (decide (i ≤ 9223372036854775807)) = true → bgI c g l i → lfit 96 l →
      (((decide (i < (g.length : Int))) = true → (inB g i ∧ (True ∧ ∀ n : Op3, n = tolW c z2 (g.getD i.toNat zerO) → (True ∧
        (((!(decide (errM n.R = 0))) = true → (([] : List Op3), (errM n.R, ())) = (bgL c g, (bgE c g, ()))) ∧
        ((!(decide (errM n.R = 0))) = false → (lfit 96 (lapp l [n]) ∧ (bgI c g (lapp l [n]) (w64 (i + 1)) ∧ ((decide (0 ≤ opMu g (w64 (i + 1)))) = true ∧ (decide (opMu g (w64 (i + 1)) < opMu g i)) = true))))))))) ∧
      ((decide (i < (g.length : Int))) = false → (True ∧ (sortO l, ((0 : Int), ())) = (bgL c g, (bgE c g, ())))))) := fun hz z2 h2 => by
    have hq : z2 = invW c.P := by rw [h2]; unfold selM; rw [if_pos (lst2_zero hz).1]; rfl
    refine ⟨⟨Int.le_refl _, by omega, rfl, fun o ho => by simp at ho⟩, fun l i _ _ hI hfit => ⟨fun hi => ?_, fun hi => ?_⟩⟩
    · have hi := of_decide_eq_true hi
      have i0 := hI.1
      have e1 : w64 (i + 1) = i + 1 := w64_id (by omega) (by unfold room at hb; omega)
      refine ⟨⟨i0, hi⟩, trivial, fun n hn => ⟨trivial, fun he => ?_, fun he => ?_⟩⟩
      · have he : errM n.R ≠ 0 := by simpa using he
        rw [hq] at hn
        obtain ⟨q1, q2⟩ := bg_bad hz i0 hi (by rw [show tol c (g.getD i.toNat zerO) = n from hn.symm]) he
        rw [q1, q2]
      · have he : errM n.R = 0 := by simpa using he
        rw [hq] at hn
        have hn' : n = tol c (g.getD i.toNat zerO) := hn
        have nx := bg_next hI hi (by rw [← hn']; exact he)
        rw [← hn'] at nx
        have hl : l.length = i.toNat := by rw [hI.2.2.1, List.length_map, List.length_take]; omega
        rw [e1]
        refine ⟨?_, nx, decide_eq_true (by unfold opMu; omega), decide_eq_true (by unfold opMu; omega)⟩
        show (l ++ [n]).length * 96 ≤ 140737488355328
        rw [List.length_append, List.length_singleton]; unfold room at hb; omega
    · obtain ⟨q1, q2⟩ := bg_end hz hI (of_decide_eq_false hi)
      rw [q1, q2]; exact ⟨trivial, rfl⟩
  have bad : ∀ e : Int, lst2 (uniE c.P) (chkE g) = e → e ≠ 0 → (([] : List Op3), (e, ())) = (bgL c g, (bgE c g, ())) := fun e he hne => by
    have h : bgE c g = e := by unfold bgE; rw [if_neg (by rw [he]; exact hne)]; exact he
    rw [show bgL c g = [] from by unfold bgL; rw [if_neg (by rw [h]; exact hne)], h]
  unfold T_bGroup
  refine ⟨trivial, fun z2 h2 z4 h4 => ⟨trivial, fun z6 h6 => ?_⟩⟩
  have lz : lst2 z4 z6 = lst2 (uniE c.P) (chkE g) := by rw [h4, h6]
  refine ⟨fun a => ⟨fun b => bad z6 ?_ ?_, fun b => main ?_ z2 h2⟩, fun a => ⟨fun b => ⟨fun d => ⟨fun e => bad z6 ?_ ?_, fun e => absurd b (by rw [e]; decide)⟩, fun d => ⟨fun e => bad z4 ?_ ?_, fun e => absurd a ?_⟩⟩, fun b => ⟨fun e => bad z4 ?_ ?_, fun e => absurd a ?_⟩⟩⟩
  all_goals try rw [← lz]
  all_goals try unfold lst2
  all_goals (simp only [Bool.not_eq_true', Bool.not_eq_false', decide_eq_true_eq, decide_eq_false_iff_not] at *)
  · rw [if_pos a]
  · exact b
  · rw [if_pos a]; exact b
  · rw [if_neg a, if_pos ⟨b, d⟩]
  · exact b
  · rw [if_neg a, if_neg (fun h => d h.2)]
  · exact a
  · exact fun h => h e
  · rw [if_neg a, if_neg (fun h => h.1 b)]
  · exact a
  · exact fun h => h e
theorem s_bGroup : Sound Tryz.prog 7 C_bGroup :=
  sound_of_eqs (fun x => env1 [(40, C_Inverse.hid), (19, C_gCheck.hid), (20, C_btold.hid), (21, C_check)] [(7, 7, { fix := [(.tmp 25, .list .op)], vars := [(.tmp 8, .list .op), (.tmp 27, .int .i64)], inv := fun y v => bgI x.1 y.1 v.1 v.2.1, mu := fun y v => opMu y.1 v.2.1 })] []) (fun _ => rfl) (fun _ => env1_ok (.cons s_Inverse.hid (.cons s_gCheck.hid (.cons s_btold.hid (.cons s_check (.nil)))))) (fun x => T_bGroup x.1 x.2.1) r_bGroup fun x ok hp => p_bGroup x.1 x.2.1 ok.1 ok.2.1
end Go.Fx
