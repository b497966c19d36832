/-
  Contracts: r6DocJoin.
-/
import Derived.Test.YtcadkndjcneedaaGreatK15
namespace Go.Fx
open Go Go.Proofs
set_option maxRecDepth 100000
set_option linter.unusedVariables false
set_option linter.unusedSimpArgs false
set_option linter.unusedSectionVars false
noncomputable def C_r6DocJoin : Contract := { args := [.list .op, .list .op], res := [.list .op, .int .i64], pre := fun _ => True, F := fun x => ((joL x.1 x.2.1 : List Op3), (joE x.1 x.2.1 : Int), ()) }
def T_r6DocJoin (g : List Op3) (h : List Op3) : Prop :=
  (True ∧
∀ z2 : Int,
(z2 = two g h →
(((!(decide (z2 = 0))) = true →
 ([], (z2, ())) = (joL g h, (joE g h, ()))) ∧
((!(decide (z2 = 0))) = false →
(lfit 96 (lapp [] g) ∧
(djO g h (lapp [] g) 0 ∧
∀ z5 : List Op3,
∀ z6 : Int,
((decide ((-9223372036854775808) ≤ z6)) = true →
((decide (z6 ≤ 9223372036854775807)) = true →
(djO g h z5 z6 →
(lfit 96 z5 →
(((decide (z6 < (z5.length : Int))) = true →
 (djI g h h z6 z5 0 ∧
 ∀ z12 : List Op3,
 ∀ z13 : Int,
 ((decide ((-9223372036854775808) ≤ z13)) = true →
 ((decide (z13 ≤ 9223372036854775807)) = true →
 (djI g h h z6 z12 z13 →
 (lfit 96 z12 →
 (((decide (z13 < (h.length : Int))) = true →
  (inB h z13 ∧
  (inB z12 z6 ∧
  (mulPre (((z12.getD (z6).toNat zerO))) (((h.getD (z13).toNat zerO))) ∧
  (inB z12 z6 ∧
  (mulPre (((h.getD (z13).toNat zerO))) (((z12.getD (z6).toNat zerO))) ∧
  (True ∧
  ∀ z19 : Bool,
  (z19 = memO z12 ((mulO (((z12.getD (z6).toNat zerO))) (((h.getD (z13).toNat zerO))))) →
  ((z19 = true →
   (True ∧
   ∀ z22 : Bool,
   (z22 = memO z12 ((mulO (((h.getD (z13).toNat zerO))) (((z12.getD (z6).toNat zerO))))) →
   ((z22 = true →
    (djI g h h z6 z12 ((w64 (z13 + 1))) ∧
    ((decide (0 ≤ opMu h ((w64 (z13 + 1))))) = true ∧
    (decide (opMu h ((w64 (z13 + 1))) < opMu h z13)) = true))) ∧
   (z22 = false →
   (((decide ((z12.length : Int) = 192)) = true →
    ([], (5, ())) = (joL g h, (joE g h, ()))) ∧
   ((decide ((z12.length : Int) = 192)) = false →
   (True ∧
   ∀ z26 : Bool,
   (z26 = okM ((mulO (((h.getD (z13).toNat zerO))) (((z12.getD (z6).toNat zerO)))).R) →
   (((!z26) = true →
    ([], (5, ())) = (joL g h, (joE g h, ()))) ∧
   ((!z26) = false →
   (lfit 96 (lapp z12 ([(mulO (((h.getD (z13).toNat zerO))) (((z12.getD (z6).toNat zerO))))])) ∧
   (djI g h h z6 (lapp z12 ([(mulO (((h.getD (z13).toNat zerO))) (((z12.getD (z6).toNat zerO))))])) ((w64 (z13 + 1))) ∧
   ((decide (0 ≤ opMu h ((w64 (z13 + 1))))) = true ∧
   (decide (opMu h ((w64 (z13 + 1))) < opMu h z13)) = true)))))))))))))) ∧
  (z19 = false →
  (((decide ((z12.length : Int) = 192)) = true →
   ([], (5, ())) = (joL g h, (joE g h, ()))) ∧
  ((decide ((z12.length : Int) = 192)) = false →
  (True ∧
  ∀ z23 : Bool,
  (z23 = okM ((mulO (((z12.getD (z6).toNat zerO))) (((h.getD (z13).toNat zerO)))).R) →
  (((!z23) = true →
   ([], (5, ())) = (joL g h, (joE g h, ()))) ∧
  ((!z23) = false →
  (lfit 96 (lapp z12 ([(mulO (((z12.getD (z6).toNat zerO))) (((h.getD (z13).toNat zerO))))])) ∧
  (True ∧
  ∀ z26 : Bool,
  (z26 = memO (lapp z12 ([(mulO (((z12.getD (z6).toNat zerO))) (((h.getD (z13).toNat zerO))))])) ((mulO (((h.getD (z13).toNat zerO))) (((z12.getD (z6).toNat zerO))))) →
  ((z26 = true →
   (djI g h h z6 (lapp z12 ([(mulO (((z12.getD (z6).toNat zerO))) (((h.getD (z13).toNat zerO))))])) ((w64 (z13 + 1))) ∧
   ((decide (0 ≤ opMu h ((w64 (z13 + 1))))) = true ∧
   (decide (opMu h ((w64 (z13 + 1))) < opMu h z13)) = true))) ∧
  (z26 = false →
  (((decide (((lapp z12 ([(mulO (((z12.getD (z6).toNat zerO))) (((h.getD (z13).toNat zerO))))])).length : Int) = 192)) = true →
   ([], (5, ())) = (joL g h, (joE g h, ()))) ∧
  ((decide (((lapp z12 ([(mulO (((z12.getD (z6).toNat zerO))) (((h.getD (z13).toNat zerO))))])).length : Int) = 192)) = false →
  (True ∧
  ∀ z30 : Bool,
  (z30 = okM ((mulO (((h.getD (z13).toNat zerO))) (((z12.getD (z6).toNat zerO)))).R) →
  (((!z30) = true →
   ([], (5, ())) = (joL g h, (joE g h, ()))) ∧
  ((!z30) = false →
  (lfit 96 (lapp (lapp z12 ([(mulO (((z12.getD (z6).toNat zerO))) (((h.getD (z13).toNat zerO))))])) ([(mulO (((h.getD (z13).toNat zerO))) (((z12.getD (z6).toNat zerO))))])) ∧
  (djI g h h z6 (lapp (lapp z12 ([(mulO (((z12.getD (z6).toNat zerO))) (((h.getD (z13).toNat zerO))))])) ([(mulO (((h.getD (z13).toNat zerO))) (((z12.getD (z6).toNat zerO))))])) ((w64 (z13 + 1))) ∧
  ((decide (0 ≤ opMu h ((w64 (z13 + 1))))) = true ∧
  (decide (opMu h ((w64 (z13 + 1))) < opMu h z13)) = true)))))))))))))))))))))))))))))) ∧
 ((decide (z13 < (h.length : Int))) = false →
 (djK g h z6 z12 0 ∧
 ∀ z19 : List Op3,
 ∀ z20 : Int,
 ((decide ((-9223372036854775808) ≤ z20)) = true →
 ((decide (z20 ≤ 9223372036854775807)) = true →
 (djK g h z6 z19 z20 →
 (lfit 96 z19 →
 (((decide (z20 < (g.length : Int))) = true →
  (inB g z20 ∧
  (inB z19 z6 ∧
  (mulPre (((z19.getD (z6).toNat zerO))) (((g.getD (z20).toNat zerO))) ∧
  (inB z19 z6 ∧
  (mulPre (((g.getD (z20).toNat zerO))) (((z19.getD (z6).toNat zerO))) ∧
  (True ∧
  ∀ z26 : Bool,
  (z26 = memO z19 ((mulO (((z19.getD (z6).toNat zerO))) (((g.getD (z20).toNat zerO))))) →
  ((z26 = true →
   (True ∧
   ∀ z29 : Bool,
   (z29 = memO z19 ((mulO (((g.getD (z20).toNat zerO))) (((z19.getD (z6).toNat zerO))))) →
   ((z29 = true →
    (djK g h z6 z19 ((w64 (z20 + 1))) ∧
    ((decide (0 ≤ opMu g ((w64 (z20 + 1))))) = true ∧
    (decide (opMu g ((w64 (z20 + 1))) < opMu g z20)) = true))) ∧
   (z29 = false →
   (((decide ((z19.length : Int) = 192)) = true →
    ([], (5, ())) = (joL g h, (joE g h, ()))) ∧
   ((decide ((z19.length : Int) = 192)) = false →
   (True ∧
   ∀ z33 : Bool,
   (z33 = okM ((mulO (((g.getD (z20).toNat zerO))) (((z19.getD (z6).toNat zerO)))).R) →
   (((!z33) = true →
    ([], (5, ())) = (joL g h, (joE g h, ()))) ∧
   ((!z33) = false →
   (lfit 96 (lapp z19 ([(mulO (((g.getD (z20).toNat zerO))) (((z19.getD (z6).toNat zerO))))])) ∧
   (djK g h z6 (lapp z19 ([(mulO (((g.getD (z20).toNat zerO))) (((z19.getD (z6).toNat zerO))))])) ((w64 (z20 + 1))) ∧
   ((decide (0 ≤ opMu g ((w64 (z20 + 1))))) = true ∧
   (decide (opMu g ((w64 (z20 + 1))) < opMu g z20)) = true)))))))))))))) ∧
  (z26 = false →
  (((decide ((z19.length : Int) = 192)) = true →
   ([], (5, ())) = (joL g h, (joE g h, ()))) ∧
  ((decide ((z19.length : Int) = 192)) = false →
  (True ∧
  ∀ z30 : Bool,
  (z30 = okM ((mulO (((z19.getD (z6).toNat zerO))) (((g.getD (z20).toNat zerO)))).R) →
  (((!z30) = true →
   ([], (5, ())) = (joL g h, (joE g h, ()))) ∧
  ((!z30) = false →
  (lfit 96 (lapp z19 ([(mulO (((z19.getD (z6).toNat zerO))) (((g.getD (z20).toNat zerO))))])) ∧
  (True ∧
  ∀ z33 : Bool,
  (z33 = memO (lapp z19 ([(mulO (((z19.getD (z6).toNat zerO))) (((g.getD (z20).toNat zerO))))])) ((mulO (((g.getD (z20).toNat zerO))) (((z19.getD (z6).toNat zerO))))) →
  ((z33 = true →
   (djK g h z6 (lapp z19 ([(mulO (((z19.getD (z6).toNat zerO))) (((g.getD (z20).toNat zerO))))])) ((w64 (z20 + 1))) ∧
   ((decide (0 ≤ opMu g ((w64 (z20 + 1))))) = true ∧
   (decide (opMu g ((w64 (z20 + 1))) < opMu g z20)) = true))) ∧
  (z33 = false →
  (((decide (((lapp z19 ([(mulO (((z19.getD (z6).toNat zerO))) (((g.getD (z20).toNat zerO))))])).length : Int) = 192)) = true →
   ([], (5, ())) = (joL g h, (joE g h, ()))) ∧
  ((decide (((lapp z19 ([(mulO (((z19.getD (z6).toNat zerO))) (((g.getD (z20).toNat zerO))))])).length : Int) = 192)) = false →
  (True ∧
  ∀ z37 : Bool,
  (z37 = okM ((mulO (((g.getD (z20).toNat zerO))) (((z19.getD (z6).toNat zerO)))).R) →
  (((!z37) = true →
   ([], (5, ())) = (joL g h, (joE g h, ()))) ∧
  ((!z37) = false →
  (lfit 96 (lapp (lapp z19 ([(mulO (((z19.getD (z6).toNat zerO))) (((g.getD (z20).toNat zerO))))])) ([(mulO (((g.getD (z20).toNat zerO))) (((z19.getD (z6).toNat zerO))))])) ∧
  (djK g h z6 (lapp (lapp z19 ([(mulO (((z19.getD (z6).toNat zerO))) (((g.getD (z20).toNat zerO))))])) ([(mulO (((g.getD (z20).toNat zerO))) (((z19.getD (z6).toNat zerO))))])) ((w64 (z20 + 1))) ∧
  ((decide (0 ≤ opMu g ((w64 (z20 + 1))))) = true ∧
  (decide (opMu g ((w64 (z20 + 1))) < opMu g z20)) = true)))))))))))))))))))))))))))))) ∧
 ((decide (z20 < (g.length : Int))) = false →
 (djO g h z19 ((w64 (z6 + 1))) ∧
 ((decide (0 ≤ djM ((w64 (z6 + 1))))) = true ∧
 (decide (djM ((w64 (z6 + 1))) < djM z6)) = true))))))))))))))))) ∧
((decide (z6 < (z5.length : Int))) = false →
(so192 z5 ∧
∀ z12 : List Op3,
(z12 = insO z5 →
(z12, (0, ())) = (joL g h, (joE g h, ()))))))))))))))))
theorem r_r6DocJoin (x : HL C_r6DocJoin.args) : runs (env0 [(32, C_r6two.hid), (33, C_r6In.hid), (34, C_r3Mul.hid), (35, C_r3Within.hid), (36, C_sorted6.hid)] [(15, 7, { fix := [], vars := [(.tmp 7, .list .op), (.tmp 8, .int .i64)], inv := fun y v => djO x.1 x.2.1 v.1 v.2.1, mu := fun y v => djM v.2.1 }), (15, 10, { fix := [(.tmp 8, .int .i64)], vars := [(.tmp 7, .list .op), (.tmp 34, .int .i64)], inv := fun y v => djI x.1 x.2.1 x.2.1 y.1 v.1 v.2.1, mu := fun y v => opMu x.2.1 v.2.1 }), (15, 22, { fix := [(.tmp 8, .int .i64)], vars := [(.tmp 7, .list .op), (.tmp 76, .int .i64)], inv := fun y v => djK x.1 x.2.1 y.1 v.1 v.2.1, mu := fun y v => opMu x.1 v.2.1 })] []) 4000 15 C_r6DocJoin x = T_r6DocJoin x.1 x.2.1 := by kernel_rfl
theorem p_r6DocJoin (g : List Op3) (h : List Op3) (h0 : (Sh.list .op).okA g) (h1 : (Sh.list .op).okA h) : T_r6DocJoin g h := by
  have hb : g.length * 96 ≤ room := h0.2
  have hb2 : h.length * 96 ≤ room := h1.2
  unfold T_r6DocJoin
  refine ⟨trivial, fun e he => ⟨fun q => ?_, fun q => ?_⟩⟩
  · have hne : two g h ≠ 0 := by rw [← he]; simpa using q
    rw [show joL g h = [] from if_neg hne, show joE g h = two g h from if_neg hne, he]
  have hz : two g h = 0 := by rw [← he]; simpa using q
  have g192 := chk_len (two_zero.1 hz).1
  have no : joL g h = [] ∧ joE g h = 5 → (([] : List Op3), ((5 : Int), ())) = (joL g h, (joE g h, ())) := fun h => by rw [h.1, h.2]
  refine ⟨by show g.length * 96 ≤ 140737488355328; omega, dj_0 hz, fun l i _ _ hO _ => ⟨fun hi => ?_, fun hi => ?_⟩⟩
  · have hi := of_decide_eq_true hi
    refine ⟨dj_in hO hi, fun l j _ _ hI _ => ⟨fun hj => ?_, fun hj => ⟨dj_mid hI (of_decide_eq_false hj), fun l j _ _ hI _ => ⟨fun hj => ?_, fun hj => dj_out hI (of_decide_eq_false hj)⟩⟩⟩⟩
    rotate_left
    have hj := of_decide_eq_true hj
    have hom := getD_mem hI.2.1.1 hj zerO
    obtain ⟨e1, e2, e3⟩ := opMu_next hb hI.2.1.1 hj
    obtain ⟨w1, w2, w3, w4⟩ := dj_way hz hI.1.1 hI.1.2 hI.2.2.1 hI.2.2.2.1 hI.2.2.2.2 (o := g.getD j.toNat zerO) (.inl hom) (fun l' => djK g h i l' (w64 (j + 1)) ∧ (decide (0 ≤ opMu g (w64 (j + 1))) = true ∧ decide (opMu g (w64 (j + 1)) < opMu g j) = true)) (fun l' p1 p2 p3 p4 => ⟨by
      rw [e1]
      refine ⟨⟨hI.1.1, p1⟩, ⟨by have := hI.2.1.1; omega, by omega⟩, p2, p3, ?_⟩
      rw [take_succ hI.2.1.1 hj zerO, ← List.append_assoc]
      exact p4, e2, e3⟩)
    refine ⟨⟨hI.2.1.1, hj⟩, ⟨hI.1.1, hI.1.2⟩, w1, ⟨hI.1.1, hI.1.2⟩, w2, trivial, fun b1 hb1 => ⟨fun q1 => ⟨trivial, fun b2 hb2 => ⟨fun q2 => id ((w3 (hb1 ▸ q1)).1 (hb2 ▸ q2)), fun q2 => ⟨fun q3 => no (((w3 (hb1 ▸ q1)).2 (hb2 ▸ q2)).1 (of_decide_eq_true q3)), fun q3 => ⟨trivial, fun b3 hb3 => ⟨fun q4 => no ((((w3 (hb1 ▸ q1)).2 (hb2 ▸ q2)).2 (of_decide_eq_false q3)).1 (by rw [← hb3]; simpa using q4)), fun q4 => ?_⟩⟩⟩⟩⟩, fun q1 => ⟨fun q3 => no ((w4 (hb1 ▸ q1)).1 (of_decide_eq_true q3)), fun q3 => ⟨trivial, fun b3 hb3 => ⟨fun q4 => no (((w4 (hb1 ▸ q1)).2 (of_decide_eq_false q3)).1 (by rw [← hb3]; simpa using q4)), fun q4 => ?_⟩⟩⟩⟩⟩
    · obtain ⟨f1, f2⟩ := (((w3 (hb1 ▸ q1)).2 (hb2 ▸ q2)).2 (of_decide_eq_false q3)).2 (by rw [← hb3]; simpa using q4)
      exact ⟨f1, f2⟩
    · obtain ⟨f1, f2, f3⟩ := ((w4 (hb1 ▸ q1)).2 (of_decide_eq_false q3)).2 (by rw [← hb3]; simpa using q4)
      refine ⟨f1, trivial, fun b4 hb4 => ⟨fun q5 => f2 (hb4 ▸ q5), fun q5 => ⟨fun q6 => no ((f3 (hb4 ▸ q5)).1 (of_decide_eq_true q6)), fun q6 => ⟨trivial, fun b5 hb5 => ⟨fun q7 => no (((f3 (hb4 ▸ q5)).2 (of_decide_eq_false q6)).1 (by rw [← hb5]; simpa using q7)), fun q7 => ?_⟩⟩⟩⟩⟩
      exact ((f3 (hb4 ▸ q5)).2 (of_decide_eq_false q6)).2 (by rw [← hb5]; simpa using q7)
    have hj := of_decide_eq_true hj
    have hom := getD_mem hI.2.1.1 hj zerO
    obtain ⟨e1, e2, e3⟩ := opMu_next hb2 hI.2.1.1 hj
    obtain ⟨w1, w2, w3, w4⟩ := dj_way hz hI.1.1 hI.1.2 hI.2.2.1 hI.2.2.2.1 hI.2.2.2.2 (o := h.getD j.toNat zerO) (.inr hom) (fun l' => djI g h h i l' (w64 (j + 1)) ∧ (decide (0 ≤ opMu h (w64 (j + 1))) = true ∧ decide (opMu h (w64 (j + 1)) < opMu h j) = true)) (fun l' p1 p2 p3 p4 => ⟨by
      rw [e1]
      refine ⟨⟨hI.1.1, p1⟩, ⟨by have := hI.2.1.1; omega, by omega⟩, p2, p3, ?_⟩
      rw [take_succ hI.2.1.1 hj zerO]
      exact p4, e2, e3⟩)
    refine ⟨⟨hI.2.1.1, hj⟩, ⟨hI.1.1, hI.1.2⟩, w1, ⟨hI.1.1, hI.1.2⟩, w2, trivial, fun b1 hb1 => ⟨fun q1 => ⟨trivial, fun b2 hb2 => ⟨fun q2 => id ((w3 (hb1 ▸ q1)).1 (hb2 ▸ q2)), fun q2 => ⟨fun q3 => no (((w3 (hb1 ▸ q1)).2 (hb2 ▸ q2)).1 (of_decide_eq_true q3)), fun q3 => ⟨trivial, fun b3 hb3 => ⟨fun q4 => no ((((w3 (hb1 ▸ q1)).2 (hb2 ▸ q2)).2 (of_decide_eq_false q3)).1 (by rw [← hb3]; simpa using q4)), fun q4 => ?_⟩⟩⟩⟩⟩, fun q1 => ⟨fun q3 => no ((w4 (hb1 ▸ q1)).1 (of_decide_eq_true q3)), fun q3 => ⟨trivial, fun b3 hb3 => ⟨fun q4 => no (((w4 (hb1 ▸ q1)).2 (of_decide_eq_false q3)).1 (by rw [← hb3]; simpa using q4)), fun q4 => ?_⟩⟩⟩⟩⟩
    · obtain ⟨f1, f2⟩ := (((w3 (hb1 ▸ q1)).2 (hb2 ▸ q2)).2 (of_decide_eq_false q3)).2 (by rw [← hb3]; simpa using q4)
      exact ⟨f1, f2⟩
    · obtain ⟨f1, f2, f3⟩ := ((w4 (hb1 ▸ q1)).2 (of_decide_eq_false q3)).2 (by rw [← hb3]; simpa using q4)
      refine ⟨f1, trivial, fun b4 hb4 => ⟨fun q5 => f2 (hb4 ▸ q5), fun q5 => ⟨fun q6 => no ((f3 (hb4 ▸ q5)).1 (of_decide_eq_true q6)), fun q6 => ⟨trivial, fun b5 hb5 => ⟨fun q7 => no (((f3 (hb4 ▸ q5)).2 (of_decide_eq_false q6)).1 (by rw [← hb5]; simpa using q7)), fun q7 => ?_⟩⟩⟩⟩⟩
      exact ((f3 (hb4 ▸ q5)).2 (of_decide_eq_false q6)).2 (by rw [← hb5]; simpa using q7)
  · obtain ⟨d1, d2, d3⟩ := dj_end hz hO (of_decide_eq_false hi)
    exact ⟨d1, fun r hr => by rw [hr, d2, d3]⟩
theorem s_r6DocJoin : Sound Tryz.prog 15 C_r6DocJoin :=
  sound_of_eqs (fun x => env0 [(32, C_r6two.hid), (33, C_r6In.hid), (34, C_r3Mul.hid), (35, C_r3Within.hid), (36, C_sorted6.hid)] [(15, 7, { fix := [], vars := [(.tmp 7, .list .op), (.tmp 8, .int .i64)], inv := fun y v => djO x.1 x.2.1 v.1 v.2.1, mu := fun y v => djM v.2.1 }), (15, 10, { fix := [(.tmp 8, .int .i64)], vars := [(.tmp 7, .list .op), (.tmp 34, .int .i64)], inv := fun y v => djI x.1 x.2.1 x.2.1 y.1 v.1 v.2.1, mu := fun y v => opMu x.2.1 v.2.1 }), (15, 22, { fix := [(.tmp 8, .int .i64)], vars := [(.tmp 7, .list .op), (.tmp 76, .int .i64)], inv := fun y v => djK x.1 x.2.1 y.1 v.1 v.2.1, mu := fun y v => opMu x.1 v.2.1 })] []) (fun _ => rfl) (fun _ => env0_ok (.cons s_r6two.hid (.cons s_r6In.hid (.cons s_r3Mul.hid (.cons s_r3Within.hid (.cons s_sorted6.hid (.nil))))))) (fun x => T_r6DocJoin x.1 x.2.1) r_r6DocJoin fun x ok hp => p_r6DocJoin x.1 x.2.1 ok.1 ok.2.1
end Go.Fx
