/-
  Contracts: WholeShears.
-/
import Derived.Test.YtjojlcakpoacjaaK5
namespace Go.Fx
open Go Go.Proofs
set_option maxRecDepth 100000
set_option linter.unusedVariables false
set_option linter.unusedSimpArgs false
set_option linter.unusedSectionVars false
noncomputable def C_WholeShears : Contract := { args := [.list .seed, .int .i8, .int .u8], res := [.bool], pre := fun _ => True, F := fun x => ((true : Bool), ()) }
def T_WholeShears (l : List Sd) (n : Int) (at_ : Int) : Prop :=
  (((decide (n = 0)) = true →
 (True ∧
 ∀ z4 : List Op3,
 (z4 = sedL l →
 (wiP z4 ((Op3.mk (M3.mk 1 1 0 0 1 0 0 0 1) (V3.mk 0 0 0))) at_ [] 0 ∧
 ∀ z6 : List Op3,
 ∀ z7 : Int,
 ((decide ((-9223372036854775808) ≤ z7)) = true →
 ((decide (z7 ≤ 9223372036854775807)) = true →
 (wiP z4 ((Op3.mk (M3.mk 1 1 0 0 1 0 0 0 1) (V3.mk 0 0 0))) at_ z6 z7 →
 (lfit 96 z6 →
 (((decide (z7 ≤ (z4.length : Int))) = true →
  (((decide (z7 = (at_ % ((z4.length : Int) + 1)))) = true →
   (lfit 96 (lapp z6 ([(Op3.mk (M3.mk 1 1 0 0 1 0 0 0 1) (V3.mk 0 0 0))])) ∧
   (((decide (z7 < (z4.length : Int))) = true →
    (inB z4 z7 ∧
    (lfit 96 (lapp (lapp z6 ([(Op3.mk (M3.mk 1 1 0 0 1 0 0 0 1) (V3.mk 0 0 0))])) ([((z4.getD (z7).toNat zerO))])) ∧
    (wiP z4 ((Op3.mk (M3.mk 1 1 0 0 1 0 0 0 1) (V3.mk 0 0 0))) at_ (lapp (lapp z6 ([(Op3.mk (M3.mk 1 1 0 0 1 0 0 0 1) (V3.mk 0 0 0))])) ([((z4.getD (z7).toNat zerO))])) ((w64 (z7 + 1))) ∧
    ((decide (0 ≤ wiMu z4 ((w64 (z7 + 1))))) = true ∧
    (decide (wiMu z4 ((w64 (z7 + 1))) < wiMu z4 z7)) = true))))) ∧
   ((decide (z7 < (z4.length : Int))) = false →
   (wiP z4 ((Op3.mk (M3.mk 1 1 0 0 1 0 0 0 1) (V3.mk 0 0 0))) at_ (lapp z6 ([(Op3.mk (M3.mk 1 1 0 0 1 0 0 0 1) (V3.mk 0 0 0))])) ((w64 (z7 + 1))) ∧
   ((decide (0 ≤ wiMu z4 ((w64 (z7 + 1))))) = true ∧
   (decide (wiMu z4 ((w64 (z7 + 1))) < wiMu z4 z7)) = true)))))) ∧
  ((decide (z7 = (at_ % ((z4.length : Int) + 1)))) = false →
  (((decide (z7 < (z4.length : Int))) = true →
   (inB z4 z7 ∧
   (lfit 96 (lapp z6 ([((z4.getD (z7).toNat zerO))])) ∧
   (wiP z4 ((Op3.mk (M3.mk 1 1 0 0 1 0 0 0 1) (V3.mk 0 0 0))) at_ (lapp z6 ([((z4.getD (z7).toNat zerO))])) ((w64 (z7 + 1))) ∧
   ((decide (0 ≤ wiMu z4 ((w64 (z7 + 1))))) = true ∧
   (decide (wiMu z4 ((w64 (z7 + 1))) < wiMu z4 z7)) = true))))) ∧
  ((decide (z7 < (z4.length : Int))) = false →
  (wiP z4 ((Op3.mk (M3.mk 1 1 0 0 1 0 0 0 1) (V3.mk 0 0 0))) at_ z6 ((w64 (z7 + 1))) ∧
  ((decide (0 ≤ wiMu z4 ((w64 (z7 + 1))))) = true ∧
  (decide (wiMu z4 ((w64 (z7 + 1))) < wiMu z4 z7)) = true))))))) ∧
 ((decide (z7 ≤ (z4.length : Int))) = false →
 (True ∧
 ∀ z13 : List Op3,
 (z13 = cloL [] →
 ∀ z15 : Int,
 (z15 = cloE [] →
 (True ∧
 ∀ z17 : List Op3,
 (z17 = cloL z6 →
 ∀ z19 : Int,
 (z19 = cloE z6 →
 (True ∧
 ∀ z21 : List Op3,
 (z21 = cloL ([(Op3.mk (M3.mk 1 0 0 0 1 0 0 0 1) (V3.mk 1 0 0)), (Op3.mk (M3.mk 1 0 0 0 1 0 0 0 1) (V3.mk 0 1 0))]) →
 ∀ z23 : Int,
 (z23 = cloE ([(Op3.mk (M3.mk 1 0 0 0 1 0 0 0 1) (V3.mk 1 0 0)), (Op3.mk (M3.mk 1 0 0 0 1 0 0 0 1) (V3.mk 0 1 0))]) →
 (True ∧
 ∀ z25 : List Op3,
 (z25 = cloL ([(Op3.mk (M3.mk 1 0 0 0 1 0 0 0 1) (V3.mk 1 0 0))]) →
 ∀ z27 : Int,
 (z27 = cloE ([(Op3.mk (M3.mk 1 0 0 0 1 0 0 0 1) (V3.mk 1 0 0))]) →
 (((decide (z15 = 0)) = true →
  (((decide ((z13.length : Int) = 1)) = true →
   (((decide (z19 = 5)) = true →
    (((decide ((z17.length : Int) = 0)) = true →
     (((decide (z23 = 5)) = true →
      (((decide ((z21.length : Int) = 0)) = true →
       (((decide (z27 = 0)) = true →
        ((decide ((z25.length : Int) = 24)), ()) = (true, ())) ∧
       ((decide (z27 = 0)) = false →
       (false, ()) = (true, ())))) ∧
      ((decide ((z21.length : Int) = 0)) = false →
      (false, ()) = (true, ())))) ∧
     ((decide (z23 = 5)) = false →
     (false, ()) = (true, ())))) ∧
    ((decide ((z17.length : Int) = 0)) = false →
    (false, ()) = (true, ())))) ∧
   ((decide (z19 = 5)) = false →
   (false, ()) = (true, ())))) ∧
  ((decide ((z13.length : Int) = 1)) = false →
  (false, ()) = (true, ())))) ∧
 ((decide (z15 = 0)) = false →
 (false, ()) = (true, ()))))))))))))))))))))))))) ∧
((decide (n = 0)) = false →
(True ∧
∀ z4 : List Op3,
(z4 = sedL l →
(wiP z4 ((Op3.mk (M3.mk 1 n 0 0 1 0 0 0 1) (V3.mk 0 0 0))) at_ [] 0 ∧
∀ z6 : List Op3,
∀ z7 : Int,
((decide ((-9223372036854775808) ≤ z7)) = true →
((decide (z7 ≤ 9223372036854775807)) = true →
(wiP z4 ((Op3.mk (M3.mk 1 n 0 0 1 0 0 0 1) (V3.mk 0 0 0))) at_ z6 z7 →
(lfit 96 z6 →
(((decide (z7 ≤ (z4.length : Int))) = true →
 (((decide (z7 = (at_ % ((z4.length : Int) + 1)))) = true →
  (lfit 96 (lapp z6 ([(Op3.mk (M3.mk 1 n 0 0 1 0 0 0 1) (V3.mk 0 0 0))])) ∧
  (((decide (z7 < (z4.length : Int))) = true →
   (inB z4 z7 ∧
   (lfit 96 (lapp (lapp z6 ([(Op3.mk (M3.mk 1 n 0 0 1 0 0 0 1) (V3.mk 0 0 0))])) ([((z4.getD (z7).toNat zerO))])) ∧
   (wiP z4 ((Op3.mk (M3.mk 1 n 0 0 1 0 0 0 1) (V3.mk 0 0 0))) at_ (lapp (lapp z6 ([(Op3.mk (M3.mk 1 n 0 0 1 0 0 0 1) (V3.mk 0 0 0))])) ([((z4.getD (z7).toNat zerO))])) ((w64 (z7 + 1))) ∧
   ((decide (0 ≤ wiMu z4 ((w64 (z7 + 1))))) = true ∧
   (decide (wiMu z4 ((w64 (z7 + 1))) < wiMu z4 z7)) = true))))) ∧
  ((decide (z7 < (z4.length : Int))) = false →
  (wiP z4 ((Op3.mk (M3.mk 1 n 0 0 1 0 0 0 1) (V3.mk 0 0 0))) at_ (lapp z6 ([(Op3.mk (M3.mk 1 n 0 0 1 0 0 0 1) (V3.mk 0 0 0))])) ((w64 (z7 + 1))) ∧
  ((decide (0 ≤ wiMu z4 ((w64 (z7 + 1))))) = true ∧
  (decide (wiMu z4 ((w64 (z7 + 1))) < wiMu z4 z7)) = true)))))) ∧
 ((decide (z7 = (at_ % ((z4.length : Int) + 1)))) = false →
 (((decide (z7 < (z4.length : Int))) = true →
  (inB z4 z7 ∧
  (lfit 96 (lapp z6 ([((z4.getD (z7).toNat zerO))])) ∧
  (wiP z4 ((Op3.mk (M3.mk 1 n 0 0 1 0 0 0 1) (V3.mk 0 0 0))) at_ (lapp z6 ([((z4.getD (z7).toNat zerO))])) ((w64 (z7 + 1))) ∧
  ((decide (0 ≤ wiMu z4 ((w64 (z7 + 1))))) = true ∧
  (decide (wiMu z4 ((w64 (z7 + 1))) < wiMu z4 z7)) = true))))) ∧
 ((decide (z7 < (z4.length : Int))) = false →
 (wiP z4 ((Op3.mk (M3.mk 1 n 0 0 1 0 0 0 1) (V3.mk 0 0 0))) at_ z6 ((w64 (z7 + 1))) ∧
 ((decide (0 ≤ wiMu z4 ((w64 (z7 + 1))))) = true ∧
 (decide (wiMu z4 ((w64 (z7 + 1))) < wiMu z4 z7)) = true))))))) ∧
((decide (z7 ≤ (z4.length : Int))) = false →
(True ∧
∀ z13 : List Op3,
(z13 = cloL [] →
∀ z15 : Int,
(z15 = cloE [] →
(True ∧
∀ z17 : List Op3,
(z17 = cloL z6 →
∀ z19 : Int,
(z19 = cloE z6 →
(True ∧
∀ z21 : List Op3,
(z21 = cloL ([(Op3.mk (M3.mk 1 0 0 0 1 0 0 0 1) (V3.mk 1 0 0)), (Op3.mk (M3.mk 1 0 0 0 1 0 0 0 1) (V3.mk 0 1 0))]) →
∀ z23 : Int,
(z23 = cloE ([(Op3.mk (M3.mk 1 0 0 0 1 0 0 0 1) (V3.mk 1 0 0)), (Op3.mk (M3.mk 1 0 0 0 1 0 0 0 1) (V3.mk 0 1 0))]) →
(True ∧
∀ z25 : List Op3,
(z25 = cloL ([(Op3.mk (M3.mk 1 0 0 0 1 0 0 0 1) (V3.mk 1 0 0))]) →
∀ z27 : Int,
(z27 = cloE ([(Op3.mk (M3.mk 1 0 0 0 1 0 0 0 1) (V3.mk 1 0 0))]) →
(((decide (z15 = 0)) = true →
 (((decide ((z13.length : Int) = 1)) = true →
  (((decide (z19 = 5)) = true →
   (((decide ((z17.length : Int) = 0)) = true →
    (((decide (z23 = 5)) = true →
     (((decide ((z21.length : Int) = 0)) = true →
      (((decide (z27 = 0)) = true →
       ((decide ((z25.length : Int) = 24)), ()) = (true, ())) ∧
      ((decide (z27 = 0)) = false →
      (false, ()) = (true, ())))) ∧
     ((decide ((z21.length : Int) = 0)) = false →
     (false, ()) = (true, ())))) ∧
    ((decide (z23 = 5)) = false →
    (false, ()) = (true, ())))) ∧
   ((decide ((z17.length : Int) = 0)) = false →
   (false, ()) = (true, ())))) ∧
  ((decide (z19 = 5)) = false →
  (false, ()) = (true, ())))) ∧
 ((decide ((z13.length : Int) = 1)) = false →
 (false, ()) = (true, ())))) ∧
((decide (z15 = 0)) = false →
(false, ()) = (true, ()))))))))))))))))))))))))))
theorem r_WholeShears (x : HL C_WholeShears.args) : runs (env0 [(13, C_seeds.hid), (14, C_gClose.hid)] [(3, 7, { fix := [(.tmp 8, .list .op), (.cell 7, .agg .op)], vars := [(.tmp 9, .list .op), (.tmp 10, .int .i64)], inv := fun y v => wiP y.1 y.2.1 x.2.2.1 v.1 v.2.1, mu := fun y v => wiMu y.1 v.2.1 })] []) 400 3 C_WholeShears x = T_WholeShears x.1 x.2.1 x.2.2.1 := by kernel_rfl
theorem p_WholeShears (l : List Sd) (n : Int) (at_ : Int) (h0 : (Sh.list .seed).okA l) (h1 : (Sh.int .i8).okA n) (h2 : (Sh.int .u8).okA at_) : T_WholeShears l n at_ := by
  unfold T_WholeShears
  have hat : 0 ≤ at_ := h2.1
  have key : ∀ m : Int, m ≠ 0 → -128 ≤ m → m ≤ 127 → 
    (True ∧
    ∀ z4 : List Op3,
    (z4 = sedL l →
    (wiP z4 ((Op3.mk (M3.mk 1 m 0 0 1 0 0 0 1) (V3.mk 0 0 0))) at_ [] 0 ∧
    ∀ z6 : List Op3,
    ∀ z7 : Int,
    ((decide ((-9223372036854775808) ≤ z7)) = true →
    ((decide (z7 ≤ 9223372036854775807)) = true →
    (wiP z4 ((Op3.mk (M3.mk 1 m 0 0 1 0 0 0 1) (V3.mk 0 0 0))) at_ z6 z7 →
    (lfit 96 z6 →
    (((decide (z7 ≤ (z4.length : Int))) = true →
     (((decide (z7 = (at_ % ((z4.length : Int) + 1)))) = true →
      (lfit 96 (lapp z6 ([(Op3.mk (M3.mk 1 m 0 0 1 0 0 0 1) (V3.mk 0 0 0))])) ∧
      (((decide (z7 < (z4.length : Int))) = true →
       (inB z4 z7 ∧
       (lfit 96 (lapp (lapp z6 ([(Op3.mk (M3.mk 1 m 0 0 1 0 0 0 1) (V3.mk 0 0 0))])) ([((z4.getD (z7).toNat (Op3.mk (M3.mk 0 0 0 0 0 0 0 0 0) (V3.mk 0 0 0))))])) ∧
       (wiP z4 ((Op3.mk (M3.mk 1 m 0 0 1 0 0 0 1) (V3.mk 0 0 0))) at_ (lapp (lapp z6 ([(Op3.mk (M3.mk 1 m 0 0 1 0 0 0 1) (V3.mk 0 0 0))])) ([((z4.getD (z7).toNat (Op3.mk (M3.mk 0 0 0 0 0 0 0 0 0) (V3.mk 0 0 0))))])) ((w64 (z7 + 1))) ∧
       ((decide (0 ≤ wiMu z4 ((w64 (z7 + 1))))) = true ∧
       (decide (wiMu z4 ((w64 (z7 + 1))) < wiMu z4 z7)) = true))))) ∧
      ((decide (z7 < (z4.length : Int))) = false →
      (wiP z4 ((Op3.mk (M3.mk 1 m 0 0 1 0 0 0 1) (V3.mk 0 0 0))) at_ (lapp z6 ([(Op3.mk (M3.mk 1 m 0 0 1 0 0 0 1) (V3.mk 0 0 0))])) ((w64 (z7 + 1))) ∧
      ((decide (0 ≤ wiMu z4 ((w64 (z7 + 1))))) = true ∧
      (decide (wiMu z4 ((w64 (z7 + 1))) < wiMu z4 z7)) = true)))))) ∧
     ((decide (z7 = (at_ % ((z4.length : Int) + 1)))) = false →
     (((decide (z7 < (z4.length : Int))) = true →
      (inB z4 z7 ∧
      (lfit 96 (lapp z6 ([((z4.getD (z7).toNat (Op3.mk (M3.mk 0 0 0 0 0 0 0 0 0) (V3.mk 0 0 0))))])) ∧
      (wiP z4 ((Op3.mk (M3.mk 1 m 0 0 1 0 0 0 1) (V3.mk 0 0 0))) at_ (lapp z6 ([((z4.getD (z7).toNat (Op3.mk (M3.mk 0 0 0 0 0 0 0 0 0) (V3.mk 0 0 0))))])) ((w64 (z7 + 1))) ∧
      ((decide (0 ≤ wiMu z4 ((w64 (z7 + 1))))) = true ∧
      (decide (wiMu z4 ((w64 (z7 + 1))) < wiMu z4 z7)) = true))))) ∧
     ((decide (z7 < (z4.length : Int))) = false →
     (wiP z4 ((Op3.mk (M3.mk 1 m 0 0 1 0 0 0 1) (V3.mk 0 0 0))) at_ z6 ((w64 (z7 + 1))) ∧
     ((decide (0 ≤ wiMu z4 ((w64 (z7 + 1))))) = true ∧
     (decide (wiMu z4 ((w64 (z7 + 1))) < wiMu z4 z7)) = true))))))) ∧
    ((decide (z7 ≤ (z4.length : Int))) = false →
    (True ∧
    ∀ z13 : List Op3,
    (z13 = cloL [] →
    ∀ z15 : Int,
    (z15 = cloE [] →
    (True ∧
    ∀ z17 : List Op3,
    (z17 = cloL z6 →
    ∀ z19 : Int,
    (z19 = cloE z6 →
    (True ∧
    ∀ z21 : List Op3,
    (z21 = cloL ([(Op3.mk (M3.mk 1 0 0 0 1 0 0 0 1) (V3.mk 1 0 0)), (Op3.mk (M3.mk 1 0 0 0 1 0 0 0 1) (V3.mk 0 1 0))]) →
    ∀ z23 : Int,
    (z23 = cloE ([(Op3.mk (M3.mk 1 0 0 0 1 0 0 0 1) (V3.mk 1 0 0)), (Op3.mk (M3.mk 1 0 0 0 1 0 0 0 1) (V3.mk 0 1 0))]) →
    (True ∧
    ∀ z25 : List Op3,
    (z25 = cloL ([(Op3.mk (M3.mk 1 0 0 0 1 0 0 0 1) (V3.mk 1 0 0))]) →
    ∀ z27 : Int,
    (z27 = cloE ([(Op3.mk (M3.mk 1 0 0 0 1 0 0 0 1) (V3.mk 1 0 0))]) →
    (((decide (z15 = 0)) = true →
     (((decide ((z13.length : Int) = 1)) = true →
      (((decide (z19 = 5)) = true →
       (((decide ((z17.length : Int) = 0)) = true →
        (((decide (z23 = 5)) = true →
         (((decide ((z21.length : Int) = 0)) = true →
          (((decide (z27 = 0)) = true →
           ((decide ((z25.length : Int) = 24)), ()) = (true, ())) ∧
          ((decide (z27 = 0)) = false →
          (false, ()) = (true, ())))) ∧
         ((decide ((z21.length : Int) = 0)) = false →
         (false, ()) = (true, ())))) ∧
        ((decide (z23 = 5)) = false →
        (false, ()) = (true, ())))) ∧
       ((decide ((z17.length : Int) = 0)) = false →
       (false, ()) = (true, ())))) ∧
      ((decide (z19 = 5)) = false →
      (false, ()) = (true, ())))) ∧
     ((decide ((z13.length : Int) = 1)) = false →
     (false, ()) = (true, ())))) ∧
    ((decide (z15 = 0)) = false →
    (false, ()) = (true, ())))))))))))))))))))))))) := fun m hm b1 b2 => by
    have hgl : (sedL l).length ≤ 3 := sedL_len l
    refine ⟨trivial, fun g hg => ⟨wi_init _ _ _ hat, fun w i _ _ hI hfit => ⟨fun hi => ?_, fun hi => ⟨trivial, fun c1 h1 e1 k1 => ⟨trivial, fun c2 h2 e2 k2 => ⟨trivial, fun c3 h3 e3 k3 => ⟨trivial, fun c4 h4 e4 k4 => ?_⟩⟩⟩⟩⟩⟩⟩
    · have hi := of_decide_eq_true hi
      have i0 := hI.1
      have hwl := hI.2.2.1
      have hg3 : g.length ≤ 3 := by rw [hg]; exact hgl
      have f1 : w64 (i + 1) = i + 1 := w64_id (by omega) (by omega)
      have m1 : decide (0 ≤ wiMu g (i + 1)) = true := decide_eq_true (by unfold wiMu; omega)
      have m2 : decide (wiMu g (i + 1) < wiMu g i) = true := decide_eq_true (by unfold wiMu; omega)
      have fit1 : ∀ x : Op3, lfit 96 (lapp w [x]) := fun x => by
        show (w ++ [x]).length * 96 ≤ 140737488355328
        rw [List.length_append, List.length_singleton]; omega
      have fit2 : ∀ x y : Op3, lfit 96 (lapp (lapp w [x]) [y]) := fun x y => by
        show ((w ++ [x]) ++ [y]).length * 96 ≤ 140737488355328
        rw [List.length_append, List.length_append, List.length_singleton, List.length_singleton]; omega
      rw [f1]
      exact ⟨fun _ => ⟨fit1 _, fun hl => ⟨⟨i0, of_decide_eq_true hl⟩, fit2 _ _, wi_a hI (of_decide_eq_true hl), m1, m2⟩, fun _ => ⟨wi_b hI hi, m1, m2⟩⟩, fun ha => ⟨fun hl => ⟨⟨i0, of_decide_eq_true hl⟩, fit1 _, wi_c hI (of_decide_eq_true hl) (of_decide_eq_false ha), m1, m2⟩, fun _ => ⟨wi_d hI hi (of_decide_eq_false ha), m1, m2⟩⟩⟩
    · subst hg
      obtain ⟨x1, x2⟩ := wi_end hm b1 b2 hI (of_decide_eq_false hi)
      obtain ⟨y1, y2⟩ := tr_2
      rw [tr_1.1] at k1
      rw [x1] at k2
      rw [x2] at h2
      rw [y1] at k3
      rw [y2] at h3
      rw [tr_3.1] at k4
      have l1 := tr_1.2
      have l4 := tr_3.2
      rw [← h1] at l1
      rw [← h4] at l4
      rw [k1, k2, k3, k4, h2, h3, l1, l4]
      decide
  have hn := h1
  exact ⟨fun _ => key 1 (by decide) (by decide) (by decide), fun h => key n (of_decide_eq_false h) hn.1 hn.2⟩
theorem s_WholeShears : Sound Try.prog 3 C_WholeShears :=
  sound_of_eqs (fun x => env0 [(13, C_seeds.hid), (14, C_gClose.hid)] [(3, 7, { fix := [(.tmp 8, .list .op), (.cell 7, .agg .op)], vars := [(.tmp 9, .list .op), (.tmp 10, .int .i64)], inv := fun y v => wiP y.1 y.2.1 x.2.2.1 v.1 v.2.1, mu := fun y v => wiMu y.1 v.2.1 })] []) (fun _ => rfl) (fun _ => env0_ok (.cons s_seeds.hid (.cons s_gClose.hid (.nil)))) (fun x => T_WholeShears x.1 x.2.1 x.2.2.1) r_WholeShears fun x ok hp => p_WholeShears x.1 x.2.1 x.2.2.1 ok.1 ok.2.1 ok.2.2.1
end Go.Fx
