/-
  Contracts: gClose.
-/
import Derived.Test.YtcadkndjcneedaaGreatK5
import Derived.Test.YtcadkndjcneedaaGreatKm
namespace Go.Fx
open Go Go.Proofs
set_option maxRecDepth 100000
set_option linter.unusedVariables false
set_option linter.unusedSimpArgs false
set_option linter.unusedSectionVars false
noncomputable def C_gClose : Contract := { args := [.list .op], res := [.list .op, .int .i64], pre := fun _ => True, F := fun x => ((cloL x.1 : List Op3), (cloE x.1 : Int), ()) }
def T_gClose (l : List Op3) : Prop :=
  (True ∧
∀ z1 : Int,
(z1 = gE l →
(((!(decide (z1 = 0))) = true →
 ([], (z1, ())) = (cloL l, (cloE l, ()))) ∧
((!(decide (z1 = 0))) = false →
(True ∧
(True ∧
(coInv l [oneO] (mset eqO [] oneO 1) 0 ∧
∀ z4 : List Op3,
∀ z5 : List (Op3 × Int),
∀ z6 : Int,
((decide ((-9223372036854775808) ≤ z6)) = true →
((decide (z6 ≤ 9223372036854775807)) = true →
(coInv l z4 z5 z6 →
(lfit 96 z4 →
(((decide (z6 < (z4.length : Int))) = true →
 (ciInv l z6 z4 z5 0 ∧
 ∀ z12 : List Op3,
 ∀ z13 : List (Op3 × Int),
 ∀ z14 : Int,
 ((decide ((-9223372036854775808) ≤ z14)) = true →
 ((decide (z14 ≤ 9223372036854775807)) = true →
 (ciInv l z6 z12 z13 z14 →
 (lfit 96 z12 →
 (((decide (z14 < (l.length : Int))) = true →
  (inB l z14 ∧
  (inB z12 z6 ∧
  (True ∧
  (((decide (mulE (((l.getD (z14).toNat zerO))) (((z12.getD (z6).toNat zerO))) = 0)) = true →
   (((decide (0 < (mgetD eqO z13 ((selO (mulE (((l.getD (z14).toNat zerO))) (((z12.getD (z6).toNat zerO)))) (mulO (((l.getD (z14).toNat zerO))) (((z12.getD (z6).toNat zerO))))))))) = true →
    (ciInv l z6 z12 z13 ((w64 (z14 + 1))) ∧
    ((decide (0 ≤ opMu l ((w64 (z14 + 1))))) = true ∧
    (decide (opMu l ((w64 (z14 + 1))) < opMu l z14)) = true))) ∧
   ((decide (0 < (mgetD eqO z13 ((selO (mulE (((l.getD (z14).toNat zerO))) (((z12.getD (z6).toNat zerO)))) (mulO (((l.getD (z14).toNat zerO))) (((z12.getD (z6).toNat zerO))))))))) = false →
   (((!(decide (mulE (((l.getD (z14).toNat zerO))) (((z12.getD (z6).toNat zerO))) = 0))) = true →
    ([], (5, ())) = (cloL l, (cloE l, ()))) ∧
   ((!(decide (mulE (((l.getD (z14).toNat zerO))) (((z12.getD (z6).toNat zerO))) = 0))) = false →
   (((decide ((z12.length : Int) = 192)) = true →
    ([], (5, ())) = (cloL l, (cloE l, ()))) ∧
   ((decide ((z12.length : Int) = 192)) = false →
   (lfit 96 (lapp z12 ([(selO (mulE (((l.getD (z14).toNat zerO))) (((z12.getD (z6).toNat zerO)))) (mulO (((l.getD (z14).toNat zerO))) (((z12.getD (z6).toNat zerO)))))])) ∧
   (ciInv l z6 (lapp z12 ([(selO (mulE (((l.getD (z14).toNat zerO))) (((z12.getD (z6).toNat zerO)))) (mulO (((l.getD (z14).toNat zerO))) (((z12.getD (z6).toNat zerO)))))])) ((mset eqO z13 ((selO (mulE (((l.getD (z14).toNat zerO))) (((z12.getD (z6).toNat zerO)))) (mulO (((l.getD (z14).toNat zerO))) (((z12.getD (z6).toNat zerO)))))) 1)) ((w64 (z14 + 1))) ∧
   ((decide (0 ≤ opMu l ((w64 (z14 + 1))))) = true ∧
   (decide (opMu l ((w64 (z14 + 1))) < opMu l z14)) = true)))))))))) ∧
  ((decide (mulE (((l.getD (z14).toNat zerO))) (((z12.getD (z6).toNat zerO))) = 0)) = false →
  (((!(decide (mulE (((l.getD (z14).toNat zerO))) (((z12.getD (z6).toNat zerO))) = 0))) = true →
   ([], (5, ())) = (cloL l, (cloE l, ()))) ∧
  ((!(decide (mulE (((l.getD (z14).toNat zerO))) (((z12.getD (z6).toNat zerO))) = 0))) = false →
  (((decide ((z12.length : Int) = 192)) = true →
   ([], (5, ())) = (cloL l, (cloE l, ()))) ∧
  ((decide ((z12.length : Int) = 192)) = false →
  (lfit 96 (lapp z12 ([(selO (mulE (((l.getD (z14).toNat zerO))) (((z12.getD (z6).toNat zerO)))) (mulO (((l.getD (z14).toNat zerO))) (((z12.getD (z6).toNat zerO)))))])) ∧
  (ciInv l z6 (lapp z12 ([(selO (mulE (((l.getD (z14).toNat zerO))) (((z12.getD (z6).toNat zerO)))) (mulO (((l.getD (z14).toNat zerO))) (((z12.getD (z6).toNat zerO)))))])) ((mset eqO z13 ((selO (mulE (((l.getD (z14).toNat zerO))) (((z12.getD (z6).toNat zerO)))) (mulO (((l.getD (z14).toNat zerO))) (((z12.getD (z6).toNat zerO)))))) 1)) ((w64 (z14 + 1))) ∧
  ((decide (0 ≤ opMu l ((w64 (z14 + 1))))) = true ∧
  (decide (opMu l ((w64 (z14 + 1))) < opMu l z14)) = true))))))))))))) ∧
 ((decide (z14 < (l.length : Int))) = false →
 (coInv l z12 z13 ((w64 (z6 + 1))) ∧
 ((decide (0 ≤ coMu ((w64 (z6 + 1))))) = true ∧
 (decide (coMu ((w64 (z6 + 1))) < coMu z6)) = true)))))))))) ∧
((decide (z6 < (z4.length : Int))) = false →
(True ∧
(sortO z4, (0, ())) = (cloL l, (cloE l, ()))))))))))))))))
theorem r_gClose (x : HL C_gClose.args) : runs (env1 [(47, C_gmaps.hid), (19, C_opOne), (48, C_opMul.hid)] [(26, 7, { fix := [(.tmp 0, .list .op)], vars := [(.tmp 5, .list .op), (.itmp 6, .map .op), (.tmp 7, .int .i64)], inv := fun y v => coInv y.1 v.1 v.2.1 v.2.2.1, mu := fun y v => coMu v.2.2.1 }), (26, 10, { fix := [(.tmp 28, .list .op), (.tmp 7, .int .i64)], vars := [(.tmp 5, .list .op), (.itmp 6, .map .op), (.tmp 30, .int .i64)], inv := fun y v => ciInv y.1 y.2.1 v.1 v.2.1 v.2.2.1, mu := fun y v => opMu y.1 v.2.2.1 })] []) 400 26 C_gClose x = T_gClose x.1 := by kernel_rfl
theorem p_gClose (l : List Op3) (h0 : (Sh.list .op).okA l) : T_gClose l := by
  have hb : l.length * 96 ≤ room := h0.2
  refine ⟨trivial, fun e he => ⟨fun h => ?_, fun h => ⟨trivial, trivial, ?_, ?_⟩⟩⟩
  · have hne : gE l ≠ 0 := by rw [← he]; simpa using h
    unfold cloL cloE; rw [if_neg hne, if_neg hne, he]
  · exact co_init (by rw [← he]; simpa using h)
  · intro a m i _ _ hI _
    refine ⟨fun hi => ⟨ci_init hI (of_decide_eq_true hi), ?_⟩, fun hi => ⟨trivial, co_end hI (of_decide_eq_false hi)⟩⟩
    have hi := of_decide_eq_true hi
    intro b n j _ _ hJ _
    refine ⟨fun hj => ?_, fun hj => ci_end hJ (of_decide_eq_false hj)⟩
    have hj := of_decide_eq_true hj
    obtain ⟨i0, i1, j0⟩ := ci_at hJ
    refine ⟨⟨j0, hj⟩, ⟨i0, i1⟩, trivial, fun h1 => ⟨fun h2 => ?_, fun h2 => ⟨fun h3 => ?_, fun h3 => ⟨fun h4 => ?_, fun h4 => ⟨?_, ?_⟩⟩⟩⟩, fun h1 => ⟨fun h3 => ?_, fun h3 => ?_⟩⟩
    · exact ci_hit hb hJ hj (of_decide_eq_true h1) (of_decide_eq_true h2)
    · exact absurd (of_decide_eq_true h1) (by simpa using h3)
    · exact ci_full hJ hj (of_decide_eq_true h1) (of_decide_eq_false h2) (of_decide_eq_true h4)
    · show (b ++ [_]).length * 96 ≤ 140737488355328
      have := ci_len hJ
      rw [List.length_append]; simp; omega
    · exact ci_add hb hJ hj (of_decide_eq_true h1) (of_decide_eq_false h2) (of_decide_eq_false h4)
    · exact ci_over hJ hj (of_decide_eq_false h1)
    · exact absurd (by simpa using h3) (of_decide_eq_false h1)
theorem s_gClose : Sound Tryz.prog 26 C_gClose :=
  sound_of_eq (env1_ok (.cons s_gmaps.hid (.cons s_opOne (.cons s_opMul.hid (.nil))))) (fun x => T_gClose x.1) r_gClose fun x ok hp => p_gClose x.1 ok.1
end Go.Fx
