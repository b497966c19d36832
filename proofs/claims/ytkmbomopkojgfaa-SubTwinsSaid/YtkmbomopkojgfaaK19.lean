/-
  Contracts: unit, power, Order.
-/
import Derived.Test.YtkmbomopkojgfaaK12
namespace Go.Fx
open Go Go.Proofs
set_option maxRecDepth 100000
set_option linter.unusedVariables false
set_option linter.unusedSimpArgs false
set_option linter.unusedSectionVars false
noncomputable def C_unit : Contract := { args := [.agg .mat], res := [.int .i64, .int .i64], pre := fun _ => True, F := fun x => ((selI (uniE x.1) (w64 (detZ x.1)) : Int), (uniE x.1 : Int), ()) }
def T_unit (m : M3) : Prop :=
  (True ∧
(((!(decide (errM m = 0))) = true →
 (0, (errM m, ())) = (selI (uniE m) (w64 (detZ m)), (uniE m, ()))) ∧
((!(decide (errM m = 0))) = false →
(True ∧
(((!(decide (w64 (detZ m) = 1))) = true →
 (((!(decide (w64 (detZ m) = (-1)))) = true →
  (0, (3, ())) = (selI (uniE m) (w64 (detZ m)), (uniE m, ()))) ∧
 ((!(decide (w64 (detZ m) = (-1)))) = false →
 (w64 (detZ m), (0, ())) = (selI (uniE m) (w64 (detZ m)), (uniE m, ()))))) ∧
((!(decide (w64 (detZ m) = 1))) = false →
(w64 (detZ m), (0, ())) = (selI (uniE m) (w64 (detZ m)), (uniE m, ()))))))))
theorem r_unit (x : HL C_unit.args) : runs (env0 [(63, C_check), (77, C_det)] [] []) 400 70 C_unit x = T_unit x.1 := by kernel_rfl
theorem p_unit (m : M3) (h0 : (Sh.agg .mat).okA m) : T_unit m := by
  rcases errM_cases m with hm | hm <;> simp [T_unit, hm, uniE, selI] <;> grind
theorem s_unit : Sound Try.prog 70 C_unit :=
  sound_of_eq (env0_ok (.cons s_check (.cons s_det (.nil)))) (fun x => T_unit x.1) r_unit fun x ok hp => p_unit x.1 ok.1
noncomputable def C_power : Contract := { args := [.agg .mat, .int .i64], res := [.bool], pre := fun _ => True, F := fun x => ((powZ x.1 x.2.1 : Bool), ()) }
def T_power (m : M3) (n : Int) : Prop :=
  (True ∧
(pInv n 2147483647 m 0 (oneZ 1) ∧
∀ z2 : Int,
((decide ((-9223372036854775808) ≤ z2)) = true →
((decide (z2 ≤ 9223372036854775807)) = true →
∀ z5 : M3,
(pInv n 2147483647 m z2 z5 →
(((decide (z2 < n)) = true →
 (pInv n 2147483647 m ((w64 (z2 + 1))) ((M3.mk ((Int.tmod ((w64 (((Int.tmod ((w64 (((Int.tmod ((0 + (w64 ((z5.xx * (((Int.tmod m.xx 2147483647) + 2147483647) % 2147483647)))))) 2147483647) + (w64 ((z5.xy * (((Int.tmod m.yx 2147483647) + 2147483647) % 2147483647)))))))) 2147483647) + (w64 ((z5.xz * (((Int.tmod m.zx 2147483647) + 2147483647) % 2147483647)))))))) 2147483647)) ((Int.tmod ((w64 (((Int.tmod ((w64 (((Int.tmod ((0 + (w64 ((z5.xx * (((Int.tmod m.xy 2147483647) + 2147483647) % 2147483647)))))) 2147483647) + (w64 ((z5.xy * (((Int.tmod m.yy 2147483647) + 2147483647) % 2147483647)))))))) 2147483647) + (w64 ((z5.xz * (((Int.tmod m.zy 2147483647) + 2147483647) % 2147483647)))))))) 2147483647)) ((Int.tmod ((w64 (((Int.tmod ((w64 (((Int.tmod ((0 + (w64 ((z5.xx * (((Int.tmod m.xz 2147483647) + 2147483647) % 2147483647)))))) 2147483647) + (w64 ((z5.xy * (((Int.tmod m.yz 2147483647) + 2147483647) % 2147483647)))))))) 2147483647) + (w64 ((z5.xz * (((Int.tmod m.zz 2147483647) + 2147483647) % 2147483647)))))))) 2147483647)) ((Int.tmod ((w64 (((Int.tmod ((w64 (((Int.tmod ((0 + (w64 ((z5.yx * (((Int.tmod m.xx 2147483647) + 2147483647) % 2147483647)))))) 2147483647) + (w64 ((z5.yy * (((Int.tmod m.yx 2147483647) + 2147483647) % 2147483647)))))))) 2147483647) + (w64 ((z5.yz * (((Int.tmod m.zx 2147483647) + 2147483647) % 2147483647)))))))) 2147483647)) ((Int.tmod ((w64 (((Int.tmod ((w64 (((Int.tmod ((0 + (w64 ((z5.yx * (((Int.tmod m.xy 2147483647) + 2147483647) % 2147483647)))))) 2147483647) + (w64 ((z5.yy * (((Int.tmod m.yy 2147483647) + 2147483647) % 2147483647)))))))) 2147483647) + (w64 ((z5.yz * (((Int.tmod m.zy 2147483647) + 2147483647) % 2147483647)))))))) 2147483647)) ((Int.tmod ((w64 (((Int.tmod ((w64 (((Int.tmod ((0 + (w64 ((z5.yx * (((Int.tmod m.xz 2147483647) + 2147483647) % 2147483647)))))) 2147483647) + (w64 ((z5.yy * (((Int.tmod m.yz 2147483647) + 2147483647) % 2147483647)))))))) 2147483647) + (w64 ((z5.yz * (((Int.tmod m.zz 2147483647) + 2147483647) % 2147483647)))))))) 2147483647)) ((Int.tmod ((w64 (((Int.tmod ((w64 (((Int.tmod ((0 + (w64 ((z5.zx * (((Int.tmod m.xx 2147483647) + 2147483647) % 2147483647)))))) 2147483647) + (w64 ((z5.zy * (((Int.tmod m.yx 2147483647) + 2147483647) % 2147483647)))))))) 2147483647) + (w64 ((z5.zz * (((Int.tmod m.zx 2147483647) + 2147483647) % 2147483647)))))))) 2147483647)) ((Int.tmod ((w64 (((Int.tmod ((w64 (((Int.tmod ((0 + (w64 ((z5.zx * (((Int.tmod m.xy 2147483647) + 2147483647) % 2147483647)))))) 2147483647) + (w64 ((z5.zy * (((Int.tmod m.yy 2147483647) + 2147483647) % 2147483647)))))))) 2147483647) + (w64 ((z5.zz * (((Int.tmod m.zy 2147483647) + 2147483647) % 2147483647)))))))) 2147483647)) ((Int.tmod ((w64 (((Int.tmod ((w64 (((Int.tmod ((0 + (w64 ((z5.zx * (((Int.tmod m.xz 2147483647) + 2147483647) % 2147483647)))))) 2147483647) + (w64 ((z5.zy * (((Int.tmod m.yz 2147483647) + 2147483647) % 2147483647)))))))) 2147483647) + (w64 ((z5.zz * (((Int.tmod m.zz 2147483647) + 2147483647) % 2147483647)))))))) 2147483647)))) ∧
 ((decide (0 ≤ pMu n ((w64 (z2 + 1))))) = true ∧
 (decide (pMu n ((w64 (z2 + 1))) < pMu n z2)) = true))) ∧
((decide (z2 < n)) = false →
(True ∧
(((!((decide (z5.xx = (oneZ 1).xx)) && ((decide (z5.xy = (oneZ 1).xy)) && ((decide (z5.xz = (oneZ 1).xz)) && ((decide (z5.yx = (oneZ 1).yx)) && ((decide (z5.yy = (oneZ 1).yy)) && ((decide (z5.yz = (oneZ 1).yz)) && ((decide (z5.zx = (oneZ 1).zx)) && ((decide (z5.zy = (oneZ 1).zy)) && ((decide (z5.zz = (oneZ 1).zz)) && true)))))))))) = true →
 (false, ()) = (powZ m n, ())) ∧
((!((decide (z5.xx = (oneZ 1).xx)) && ((decide (z5.xy = (oneZ 1).xy)) && ((decide (z5.xz = (oneZ 1).xz)) && ((decide (z5.yx = (oneZ 1).yx)) && ((decide (z5.yy = (oneZ 1).yy)) && ((decide (z5.yz = (oneZ 1).yz)) && ((decide (z5.zx = (oneZ 1).zx)) && ((decide (z5.zy = (oneZ 1).zy)) && ((decide (z5.zz = (oneZ 1).zz)) && true)))))))))) = false →
(True ∧
(pInv n 2147483629 m 0 (oneZ 1) ∧
∀ z9 : Int,
((decide ((-9223372036854775808) ≤ z9)) = true →
((decide (z9 ≤ 9223372036854775807)) = true →
∀ z12 : M3,
(pInv n 2147483629 m z9 z12 →
(((decide (z9 < n)) = true →
 (pInv n 2147483629 m ((w64 (z9 + 1))) ((M3.mk ((Int.tmod ((w64 (((Int.tmod ((w64 (((Int.tmod ((0 + (w64 ((z12.xx * (((Int.tmod m.xx 2147483629) + 2147483629) % 2147483629)))))) 2147483629) + (w64 ((z12.xy * (((Int.tmod m.yx 2147483629) + 2147483629) % 2147483629)))))))) 2147483629) + (w64 ((z12.xz * (((Int.tmod m.zx 2147483629) + 2147483629) % 2147483629)))))))) 2147483629)) ((Int.tmod ((w64 (((Int.tmod ((w64 (((Int.tmod ((0 + (w64 ((z12.xx * (((Int.tmod m.xy 2147483629) + 2147483629) % 2147483629)))))) 2147483629) + (w64 ((z12.xy * (((Int.tmod m.yy 2147483629) + 2147483629) % 2147483629)))))))) 2147483629) + (w64 ((z12.xz * (((Int.tmod m.zy 2147483629) + 2147483629) % 2147483629)))))))) 2147483629)) ((Int.tmod ((w64 (((Int.tmod ((w64 (((Int.tmod ((0 + (w64 ((z12.xx * (((Int.tmod m.xz 2147483629) + 2147483629) % 2147483629)))))) 2147483629) + (w64 ((z12.xy * (((Int.tmod m.yz 2147483629) + 2147483629) % 2147483629)))))))) 2147483629) + (w64 ((z12.xz * (((Int.tmod m.zz 2147483629) + 2147483629) % 2147483629)))))))) 2147483629)) ((Int.tmod ((w64 (((Int.tmod ((w64 (((Int.tmod ((0 + (w64 ((z12.yx * (((Int.tmod m.xx 2147483629) + 2147483629) % 2147483629)))))) 2147483629) + (w64 ((z12.yy * (((Int.tmod m.yx 2147483629) + 2147483629) % 2147483629)))))))) 2147483629) + (w64 ((z12.yz * (((Int.tmod m.zx 2147483629) + 2147483629) % 2147483629)))))))) 2147483629)) ((Int.tmod ((w64 (((Int.tmod ((w64 (((Int.tmod ((0 + (w64 ((z12.yx * (((Int.tmod m.xy 2147483629) + 2147483629) % 2147483629)))))) 2147483629) + (w64 ((z12.yy * (((Int.tmod m.yy 2147483629) + 2147483629) % 2147483629)))))))) 2147483629) + (w64 ((z12.yz * (((Int.tmod m.zy 2147483629) + 2147483629) % 2147483629)))))))) 2147483629)) ((Int.tmod ((w64 (((Int.tmod ((w64 (((Int.tmod ((0 + (w64 ((z12.yx * (((Int.tmod m.xz 2147483629) + 2147483629) % 2147483629)))))) 2147483629) + (w64 ((z12.yy * (((Int.tmod m.yz 2147483629) + 2147483629) % 2147483629)))))))) 2147483629) + (w64 ((z12.yz * (((Int.tmod m.zz 2147483629) + 2147483629) % 2147483629)))))))) 2147483629)) ((Int.tmod ((w64 (((Int.tmod ((w64 (((Int.tmod ((0 + (w64 ((z12.zx * (((Int.tmod m.xx 2147483629) + 2147483629) % 2147483629)))))) 2147483629) + (w64 ((z12.zy * (((Int.tmod m.yx 2147483629) + 2147483629) % 2147483629)))))))) 2147483629) + (w64 ((z12.zz * (((Int.tmod m.zx 2147483629) + 2147483629) % 2147483629)))))))) 2147483629)) ((Int.tmod ((w64 (((Int.tmod ((w64 (((Int.tmod ((0 + (w64 ((z12.zx * (((Int.tmod m.xy 2147483629) + 2147483629) % 2147483629)))))) 2147483629) + (w64 ((z12.zy * (((Int.tmod m.yy 2147483629) + 2147483629) % 2147483629)))))))) 2147483629) + (w64 ((z12.zz * (((Int.tmod m.zy 2147483629) + 2147483629) % 2147483629)))))))) 2147483629)) ((Int.tmod ((w64 (((Int.tmod ((w64 (((Int.tmod ((0 + (w64 ((z12.zx * (((Int.tmod m.xz 2147483629) + 2147483629) % 2147483629)))))) 2147483629) + (w64 ((z12.zy * (((Int.tmod m.yz 2147483629) + 2147483629) % 2147483629)))))))) 2147483629) + (w64 ((z12.zz * (((Int.tmod m.zz 2147483629) + 2147483629) % 2147483629)))))))) 2147483629)))) ∧
 ((decide (0 ≤ pMu n ((w64 (z9 + 1))))) = true ∧
 (decide (pMu n ((w64 (z9 + 1))) < pMu n z9)) = true))) ∧
((decide (z9 < n)) = false →
(True ∧
(((!((decide (z12.xx = (oneZ 1).xx)) && ((decide (z12.xy = (oneZ 1).xy)) && ((decide (z12.xz = (oneZ 1).xz)) && ((decide (z12.yx = (oneZ 1).yx)) && ((decide (z12.yy = (oneZ 1).yy)) && ((decide (z12.yz = (oneZ 1).yz)) && ((decide (z12.zx = (oneZ 1).zx)) && ((decide (z12.zy = (oneZ 1).zy)) && ((decide (z12.zz = (oneZ 1).zz)) && true)))))))))) = true →
 (false, ()) = (powZ m n, ())) ∧
((!((decide (z12.xx = (oneZ 1).xx)) && ((decide (z12.xy = (oneZ 1).xy)) && ((decide (z12.xz = (oneZ 1).xz)) && ((decide (z12.yx = (oneZ 1).yx)) && ((decide (z12.yy = (oneZ 1).yy)) && ((decide (z12.yz = (oneZ 1).yz)) && ((decide (z12.zx = (oneZ 1).zx)) && ((decide (z12.zy = (oneZ 1).zy)) && ((decide (z12.zz = (oneZ 1).zz)) && true)))))))))) = false →
(True ∧
(pInv n 2147483587 m 0 (oneZ 1) ∧
∀ z16 : Int,
((decide ((-9223372036854775808) ≤ z16)) = true →
((decide (z16 ≤ 9223372036854775807)) = true →
∀ z19 : M3,
(pInv n 2147483587 m z16 z19 →
(((decide (z16 < n)) = true →
 (pInv n 2147483587 m ((w64 (z16 + 1))) ((M3.mk ((Int.tmod ((w64 (((Int.tmod ((w64 (((Int.tmod ((0 + (w64 ((z19.xx * (((Int.tmod m.xx 2147483587) + 2147483587) % 2147483587)))))) 2147483587) + (w64 ((z19.xy * (((Int.tmod m.yx 2147483587) + 2147483587) % 2147483587)))))))) 2147483587) + (w64 ((z19.xz * (((Int.tmod m.zx 2147483587) + 2147483587) % 2147483587)))))))) 2147483587)) ((Int.tmod ((w64 (((Int.tmod ((w64 (((Int.tmod ((0 + (w64 ((z19.xx * (((Int.tmod m.xy 2147483587) + 2147483587) % 2147483587)))))) 2147483587) + (w64 ((z19.xy * (((Int.tmod m.yy 2147483587) + 2147483587) % 2147483587)))))))) 2147483587) + (w64 ((z19.xz * (((Int.tmod m.zy 2147483587) + 2147483587) % 2147483587)))))))) 2147483587)) ((Int.tmod ((w64 (((Int.tmod ((w64 (((Int.tmod ((0 + (w64 ((z19.xx * (((Int.tmod m.xz 2147483587) + 2147483587) % 2147483587)))))) 2147483587) + (w64 ((z19.xy * (((Int.tmod m.yz 2147483587) + 2147483587) % 2147483587)))))))) 2147483587) + (w64 ((z19.xz * (((Int.tmod m.zz 2147483587) + 2147483587) % 2147483587)))))))) 2147483587)) ((Int.tmod ((w64 (((Int.tmod ((w64 (((Int.tmod ((0 + (w64 ((z19.yx * (((Int.tmod m.xx 2147483587) + 2147483587) % 2147483587)))))) 2147483587) + (w64 ((z19.yy * (((Int.tmod m.yx 2147483587) + 2147483587) % 2147483587)))))))) 2147483587) + (w64 ((z19.yz * (((Int.tmod m.zx 2147483587) + 2147483587) % 2147483587)))))))) 2147483587)) ((Int.tmod ((w64 (((Int.tmod ((w64 (((Int.tmod ((0 + (w64 ((z19.yx * (((Int.tmod m.xy 2147483587) + 2147483587) % 2147483587)))))) 2147483587) + (w64 ((z19.yy * (((Int.tmod m.yy 2147483587) + 2147483587) % 2147483587)))))))) 2147483587) + (w64 ((z19.yz * (((Int.tmod m.zy 2147483587) + 2147483587) % 2147483587)))))))) 2147483587)) ((Int.tmod ((w64 (((Int.tmod ((w64 (((Int.tmod ((0 + (w64 ((z19.yx * (((Int.tmod m.xz 2147483587) + 2147483587) % 2147483587)))))) 2147483587) + (w64 ((z19.yy * (((Int.tmod m.yz 2147483587) + 2147483587) % 2147483587)))))))) 2147483587) + (w64 ((z19.yz * (((Int.tmod m.zz 2147483587) + 2147483587) % 2147483587)))))))) 2147483587)) ((Int.tmod ((w64 (((Int.tmod ((w64 (((Int.tmod ((0 + (w64 ((z19.zx * (((Int.tmod m.xx 2147483587) + 2147483587) % 2147483587)))))) 2147483587) + (w64 ((z19.zy * (((Int.tmod m.yx 2147483587) + 2147483587) % 2147483587)))))))) 2147483587) + (w64 ((z19.zz * (((Int.tmod m.zx 2147483587) + 2147483587) % 2147483587)))))))) 2147483587)) ((Int.tmod ((w64 (((Int.tmod ((w64 (((Int.tmod ((0 + (w64 ((z19.zx * (((Int.tmod m.xy 2147483587) + 2147483587) % 2147483587)))))) 2147483587) + (w64 ((z19.zy * (((Int.tmod m.yy 2147483587) + 2147483587) % 2147483587)))))))) 2147483587) + (w64 ((z19.zz * (((Int.tmod m.zy 2147483587) + 2147483587) % 2147483587)))))))) 2147483587)) ((Int.tmod ((w64 (((Int.tmod ((w64 (((Int.tmod ((0 + (w64 ((z19.zx * (((Int.tmod m.xz 2147483587) + 2147483587) % 2147483587)))))) 2147483587) + (w64 ((z19.zy * (((Int.tmod m.yz 2147483587) + 2147483587) % 2147483587)))))))) 2147483587) + (w64 ((z19.zz * (((Int.tmod m.zz 2147483587) + 2147483587) % 2147483587)))))))) 2147483587)))) ∧
 ((decide (0 ≤ pMu n ((w64 (z16 + 1))))) = true ∧
 (decide (pMu n ((w64 (z16 + 1))) < pMu n z16)) = true))) ∧
((decide (z16 < n)) = false →
(True ∧
(((!((decide (z19.xx = (oneZ 1).xx)) && ((decide (z19.xy = (oneZ 1).xy)) && ((decide (z19.xz = (oneZ 1).xz)) && ((decide (z19.yx = (oneZ 1).yx)) && ((decide (z19.yy = (oneZ 1).yy)) && ((decide (z19.yz = (oneZ 1).yz)) && ((decide (z19.zx = (oneZ 1).zx)) && ((decide (z19.zy = (oneZ 1).zy)) && ((decide (z19.zz = (oneZ 1).zz)) && true)))))))))) = true →
 (false, ()) = (powZ m n, ())) ∧
((!((decide (z19.xx = (oneZ 1).xx)) && ((decide (z19.xy = (oneZ 1).xy)) && ((decide (z19.xz = (oneZ 1).xz)) && ((decide (z19.yx = (oneZ 1).yx)) && ((decide (z19.yy = (oneZ 1).yy)) && ((decide (z19.yz = (oneZ 1).yz)) && ((decide (z19.zx = (oneZ 1).zx)) && ((decide (z19.zy = (oneZ 1).zy)) && ((decide (z19.zz = (oneZ 1).zz)) && true)))))))))) = false →
(true, ()) = (powZ m n, ())))))))))))))))))))))))))))))))
theorem r_power (x : HL C_power.args) : runs (env0 [(52, C_Identity)] [(71, 6, { fix := [(.tmp 20, .int .i64), (.tmp 6, .int .i64), (.cell 2, .agg .mat)], vars := [(.tmp 21, .int .i64), (.cell 7, .agg .mat)], inv := fun y v => pInv y.1 y.2.1 y.2.2.1 v.1 v.2.1, mu := fun y v => pMu y.1 v.1 })] []) 400 71 C_power x = T_power x.1 x.2.1 := by kernel_rfl
theorem p_power (m : M3) (n : Int) (h0 : (Sh.agg .mat).okA m) (h1 : (Sh.int .i64).okA n) : T_power m n := by
  have hn : n ≤ 9223372036854775807 := h1.2
  have no : ∀ {b : Bool}, (!b) = true → b = false := fun {b} h => by cases b <;> first | rfl | cases h
  have ye : ∀ {b : Bool}, (!b) = false → b = true := fun {b} h => by cases b <;> first | rfl | cases h
  refine ⟨trivial, pow_zero _ _ _, fun z _ _ c hI => ⟨fun hz => pow_round (by decide) (by decide) hn hI (of_decide_eq_true hz), fun hz => ⟨trivial, fun hq => ?_, fun hq => ?_⟩⟩⟩
  · have hq' : eqM c (oneZ 1) = false := no hq
    rw [pow_end hI (of_decide_eq_false hz)] at hq'
    simp [powZ, hq']
  have q1 : eqM c (oneZ 1) = true := ye hq
  rw [pow_end hI (of_decide_eq_false hz)] at q1
  clear hI hz hq
  refine ⟨trivial, pow_zero _ _ _, fun z _ _ c hI => ⟨fun hz => pow_round (by decide) (by decide) hn hI (of_decide_eq_true hz), fun hz => ⟨trivial, fun hq => ?_, fun hq => ?_⟩⟩⟩
  · have hq' : eqM c (oneZ 1) = false := no hq
    rw [pow_end hI (of_decide_eq_false hz)] at hq'
    simp [powZ, hq']
  have q2 : eqM c (oneZ 1) = true := ye hq
  rw [pow_end hI (of_decide_eq_false hz)] at q2
  clear hI hz hq
  refine ⟨trivial, pow_zero _ _ _, fun z _ _ c hI => ⟨fun hz => pow_round (by decide) (by decide) hn hI (of_decide_eq_true hz), fun hz => ⟨trivial, fun hq => ?_, fun hq => ?_⟩⟩⟩
  · have hq' : eqM c (oneZ 1) = false := no hq
    rw [pow_end hI (of_decide_eq_false hz)] at hq'
    simp [powZ, hq']
  have q3 : eqM c (oneZ 1) = true := ye hq
  rw [pow_end hI (of_decide_eq_false hz)] at q3
  simp [powZ, q1, q2, q3]
theorem s_power : Sound Try.prog 71 C_power :=
  sound_of_eq (env0_ok (.cons s_Identity (.nil))) (fun x => T_power x.1 x.2.1) r_power fun x ok hp => p_power x.1 x.2.1 ok.1 ok.2.1
noncomputable def C_Order : Contract := { args := [.agg .mat], res := [.int .i64, .int .i64], pre := fun _ => True, F := fun x => ((ordZ x.1 : Int), (ordE x.1 : Int), ()) }
def T_Order (m : M3) : Prop :=
  (True ∧
(((!(decide (uniE m = 0))) = true →
 (0, (uniE m, ())) = (ordZ m, (ordE m, ()))) ∧
((!(decide (uniE m = 0))) = false →
(((!(mhas eqI ((mset eqI ((mset eqI ((mset eqI ((mset eqI (mset eqI [] 3 1) 2 6)) 1 4)) 0 3)) (-1) 2)) ((w64 ((selI (uniE m) (w64 (detZ m)) * (w64 (((w64 (m.xx + m.yy)) + m.zz))))))))) = true →
 (0, (9, ())) = (ordZ m, (ordE m, ()))) ∧
((!(mhas eqI ((mset eqI ((mset eqI ((mset eqI ((mset eqI (mset eqI [] 3 1) 2 6)) 1 4)) 0 3)) (-1) 2)) ((w64 ((selI (uniE m) (w64 (detZ m)) * (w64 (((w64 (m.xx + m.yy)) + m.zz))))))))) = false →
(((decide (selI (uniE m) (w64 (detZ m)) < 0)) = true →
 (((decide ((Int.tmod ((mgetD eqI ((mset eqI ((mset eqI ((mset eqI ((mset eqI (mset eqI [] 3 1) 2 6)) 1 4)) 0 3)) (-1) 2)) ((w64 ((selI (uniE m) (w64 (detZ m)) * (w64 (((w64 (m.xx + m.yy)) + m.zz))))))))) 2) = 1)) = true →
  (True ∧
  (((!powZ m ((w64 (((mgetD eqI ((mset eqI ((mset eqI ((mset eqI ((mset eqI (mset eqI [] 3 1) 2 6)) 1 4)) 0 3)) (-1) 2)) ((w64 ((selI (uniE m) (w64 (detZ m)) * (w64 (((w64 (m.xx + m.yy)) + m.zz)))))))) * 2))))) = true →
   (0, (9, ())) = (ordZ m, (ordE m, ()))) ∧
  ((!powZ m ((w64 (((mgetD eqI ((mset eqI ((mset eqI ((mset eqI ((mset eqI (mset eqI [] 3 1) 2 6)) 1 4)) 0 3)) (-1) 2)) ((w64 ((selI (uniE m) (w64 (detZ m)) * (w64 (((w64 (m.xx + m.yy)) + m.zz)))))))) * 2))))) = false →
  (oInv m ((w64 (((mgetD eqI ((mset eqI ((mset eqI ((mset eqI ((mset eqI (mset eqI [] 3 1) 2 6)) 1 4)) 0 3)) (-1) 2)) ((w64 ((selI (uniE m) (w64 (detZ m)) * (w64 (((w64 (m.xx + m.yy)) + m.zz)))))))) * 2)))) 1 ∧
  ∀ z6 : Int,
  ((decide ((-9223372036854775808) ≤ z6)) = true →
  ((decide (z6 ≤ 9223372036854775807)) = true →
  (oInv m ((w64 (((mgetD eqI ((mset eqI ((mset eqI ((mset eqI ((mset eqI (mset eqI [] 3 1) 2 6)) 1 4)) 0 3)) (-1) 2)) ((w64 ((selI (uniE m) (w64 (detZ m)) * (w64 (((w64 (m.xx + m.yy)) + m.zz)))))))) * 2)))) z6 →
  (((decide (z6 < (w64 (((mgetD eqI ((mset eqI ((mset eqI ((mset eqI ((mset eqI (mset eqI [] 3 1) 2 6)) 1 4)) 0 3)) (-1) 2)) ((w64 ((selI (uniE m) (w64 (detZ m)) * (w64 (((w64 (m.xx + m.yy)) + m.zz)))))))) * 2))))) = true →
   ((z6 ≠ 0) ∧
   (((decide ((Int.tmod ((w64 (((mgetD eqI ((mset eqI ((mset eqI ((mset eqI ((mset eqI (mset eqI [] 3 1) 2 6)) 1 4)) 0 3)) (-1) 2)) ((w64 ((selI (uniE m) (w64 (detZ m)) * (w64 (((w64 (m.xx + m.yy)) + m.zz)))))))) * 2)))) z6) = 0)) = true →
    (True ∧
    ((powZ m z6 = true →
     (z6, (0, ())) = (ordZ m, (ordE m, ()))) ∧
    (powZ m z6 = false →
    (oInv m ((w64 (((mgetD eqI ((mset eqI ((mset eqI ((mset eqI ((mset eqI (mset eqI [] 3 1) 2 6)) 1 4)) 0 3)) (-1) 2)) ((w64 ((selI (uniE m) (w64 (detZ m)) * (w64 (((w64 (m.xx + m.yy)) + m.zz)))))))) * 2)))) ((w64 (z6 + 1))) ∧
    ((decide (0 ≤ pMu ((w64 (((mgetD eqI ((mset eqI ((mset eqI ((mset eqI ((mset eqI (mset eqI [] 3 1) 2 6)) 1 4)) 0 3)) (-1) 2)) ((w64 ((selI (uniE m) (w64 (detZ m)) * (w64 (((w64 (m.xx + m.yy)) + m.zz)))))))) * 2)))) ((w64 (z6 + 1))))) = true ∧
    (decide (pMu ((w64 (((mgetD eqI ((mset eqI ((mset eqI ((mset eqI ((mset eqI (mset eqI [] 3 1) 2 6)) 1 4)) 0 3)) (-1) 2)) ((w64 ((selI (uniE m) (w64 (detZ m)) * (w64 (((w64 (m.xx + m.yy)) + m.zz)))))))) * 2)))) ((w64 (z6 + 1))) < pMu ((w64 (((mgetD eqI ((mset eqI ((mset eqI ((mset eqI ((mset eqI (mset eqI [] 3 1) 2 6)) 1 4)) 0 3)) (-1) 2)) ((w64 ((selI (uniE m) (w64 (detZ m)) * (w64 (((w64 (m.xx + m.yy)) + m.zz)))))))) * 2)))) z6)) = true)))))) ∧
   ((decide ((Int.tmod ((w64 (((mgetD eqI ((mset eqI ((mset eqI ((mset eqI ((mset eqI (mset eqI [] 3 1) 2 6)) 1 4)) 0 3)) (-1) 2)) ((w64 ((selI (uniE m) (w64 (detZ m)) * (w64 (((w64 (m.xx + m.yy)) + m.zz)))))))) * 2)))) z6) = 0)) = false →
   (oInv m ((w64 (((mgetD eqI ((mset eqI ((mset eqI ((mset eqI ((mset eqI (mset eqI [] 3 1) 2 6)) 1 4)) 0 3)) (-1) 2)) ((w64 ((selI (uniE m) (w64 (detZ m)) * (w64 (((w64 (m.xx + m.yy)) + m.zz)))))))) * 2)))) ((w64 (z6 + 1))) ∧
   ((decide (0 ≤ pMu ((w64 (((mgetD eqI ((mset eqI ((mset eqI ((mset eqI ((mset eqI (mset eqI [] 3 1) 2 6)) 1 4)) 0 3)) (-1) 2)) ((w64 ((selI (uniE m) (w64 (detZ m)) * (w64 (((w64 (m.xx + m.yy)) + m.zz)))))))) * 2)))) ((w64 (z6 + 1))))) = true ∧
   (decide (pMu ((w64 (((mgetD eqI ((mset eqI ((mset eqI ((mset eqI ((mset eqI (mset eqI [] 3 1) 2 6)) 1 4)) 0 3)) (-1) 2)) ((w64 ((selI (uniE m) (w64 (detZ m)) * (w64 (((w64 (m.xx + m.yy)) + m.zz)))))))) * 2)))) ((w64 (z6 + 1))) < pMu ((w64 (((mgetD eqI ((mset eqI ((mset eqI ((mset eqI ((mset eqI (mset eqI [] 3 1) 2 6)) 1 4)) 0 3)) (-1) 2)) ((w64 ((selI (uniE m) (w64 (detZ m)) * (w64 (((w64 (m.xx + m.yy)) + m.zz)))))))) * 2)))) z6)) = true)))))) ∧
  ((decide (z6 < (w64 (((mgetD eqI ((mset eqI ((mset eqI ((mset eqI ((mset eqI (mset eqI [] 3 1) 2 6)) 1 4)) 0 3)) (-1) 2)) ((w64 ((selI (uniE m) (w64 (detZ m)) * (w64 (((w64 (m.xx + m.yy)) + m.zz)))))))) * 2))))) = false →
  ((w64 (((mgetD eqI ((mset eqI ((mset eqI ((mset eqI ((mset eqI (mset eqI [] 3 1) 2 6)) 1 4)) 0 3)) (-1) 2)) ((w64 ((selI (uniE m) (w64 (detZ m)) * (w64 (((w64 (m.xx + m.yy)) + m.zz)))))))) * 2))), (0, ())) = (ordZ m, (ordE m, ())))))))))))) ∧
 ((decide ((Int.tmod ((mgetD eqI ((mset eqI ((mset eqI ((mset eqI ((mset eqI (mset eqI [] 3 1) 2 6)) 1 4)) 0 3)) (-1) 2)) ((w64 ((selI (uniE m) (w64 (detZ m)) * (w64 (((w64 (m.xx + m.yy)) + m.zz))))))))) 2) = 1)) = false →
 (True ∧
 (((!powZ m ((mgetD eqI ((mset eqI ((mset eqI ((mset eqI ((mset eqI (mset eqI [] 3 1) 2 6)) 1 4)) 0 3)) (-1) 2)) ((w64 ((selI (uniE m) (w64 (detZ m)) * (w64 (((w64 (m.xx + m.yy)) + m.zz)))))))))) = true →
  (0, (9, ())) = (ordZ m, (ordE m, ()))) ∧
 ((!powZ m ((mgetD eqI ((mset eqI ((mset eqI ((mset eqI ((mset eqI (mset eqI [] 3 1) 2 6)) 1 4)) 0 3)) (-1) 2)) ((w64 ((selI (uniE m) (w64 (detZ m)) * (w64 (((w64 (m.xx + m.yy)) + m.zz)))))))))) = false →
 (oInv m ((mgetD eqI ((mset eqI ((mset eqI ((mset eqI ((mset eqI (mset eqI [] 3 1) 2 6)) 1 4)) 0 3)) (-1) 2)) ((w64 ((selI (uniE m) (w64 (detZ m)) * (w64 (((w64 (m.xx + m.yy)) + m.zz))))))))) 1 ∧
 ∀ z6 : Int,
 ((decide ((-9223372036854775808) ≤ z6)) = true →
 ((decide (z6 ≤ 9223372036854775807)) = true →
 (oInv m ((mgetD eqI ((mset eqI ((mset eqI ((mset eqI ((mset eqI (mset eqI [] 3 1) 2 6)) 1 4)) 0 3)) (-1) 2)) ((w64 ((selI (uniE m) (w64 (detZ m)) * (w64 (((w64 (m.xx + m.yy)) + m.zz))))))))) z6 →
 (((decide (z6 < (mgetD eqI ((mset eqI ((mset eqI ((mset eqI ((mset eqI (mset eqI [] 3 1) 2 6)) 1 4)) 0 3)) (-1) 2)) ((w64 ((selI (uniE m) (w64 (detZ m)) * (w64 (((w64 (m.xx + m.yy)) + m.zz)))))))))) = true →
  ((z6 ≠ 0) ∧
  (((decide ((Int.tmod ((mgetD eqI ((mset eqI ((mset eqI ((mset eqI ((mset eqI (mset eqI [] 3 1) 2 6)) 1 4)) 0 3)) (-1) 2)) ((w64 ((selI (uniE m) (w64 (detZ m)) * (w64 (((w64 (m.xx + m.yy)) + m.zz))))))))) z6) = 0)) = true →
   (True ∧
   ((powZ m z6 = true →
    (z6, (0, ())) = (ordZ m, (ordE m, ()))) ∧
   (powZ m z6 = false →
   (oInv m ((mgetD eqI ((mset eqI ((mset eqI ((mset eqI ((mset eqI (mset eqI [] 3 1) 2 6)) 1 4)) 0 3)) (-1) 2)) ((w64 ((selI (uniE m) (w64 (detZ m)) * (w64 (((w64 (m.xx + m.yy)) + m.zz))))))))) ((w64 (z6 + 1))) ∧
   ((decide (0 ≤ pMu ((mgetD eqI ((mset eqI ((mset eqI ((mset eqI ((mset eqI (mset eqI [] 3 1) 2 6)) 1 4)) 0 3)) (-1) 2)) ((w64 ((selI (uniE m) (w64 (detZ m)) * (w64 (((w64 (m.xx + m.yy)) + m.zz))))))))) ((w64 (z6 + 1))))) = true ∧
   (decide (pMu ((mgetD eqI ((mset eqI ((mset eqI ((mset eqI ((mset eqI (mset eqI [] 3 1) 2 6)) 1 4)) 0 3)) (-1) 2)) ((w64 ((selI (uniE m) (w64 (detZ m)) * (w64 (((w64 (m.xx + m.yy)) + m.zz))))))))) ((w64 (z6 + 1))) < pMu ((mgetD eqI ((mset eqI ((mset eqI ((mset eqI ((mset eqI (mset eqI [] 3 1) 2 6)) 1 4)) 0 3)) (-1) 2)) ((w64 ((selI (uniE m) (w64 (detZ m)) * (w64 (((w64 (m.xx + m.yy)) + m.zz))))))))) z6)) = true)))))) ∧
  ((decide ((Int.tmod ((mgetD eqI ((mset eqI ((mset eqI ((mset eqI ((mset eqI (mset eqI [] 3 1) 2 6)) 1 4)) 0 3)) (-1) 2)) ((w64 ((selI (uniE m) (w64 (detZ m)) * (w64 (((w64 (m.xx + m.yy)) + m.zz))))))))) z6) = 0)) = false →
  (oInv m ((mgetD eqI ((mset eqI ((mset eqI ((mset eqI ((mset eqI (mset eqI [] 3 1) 2 6)) 1 4)) 0 3)) (-1) 2)) ((w64 ((selI (uniE m) (w64 (detZ m)) * (w64 (((w64 (m.xx + m.yy)) + m.zz))))))))) ((w64 (z6 + 1))) ∧
  ((decide (0 ≤ pMu ((mgetD eqI ((mset eqI ((mset eqI ((mset eqI ((mset eqI (mset eqI [] 3 1) 2 6)) 1 4)) 0 3)) (-1) 2)) ((w64 ((selI (uniE m) (w64 (detZ m)) * (w64 (((w64 (m.xx + m.yy)) + m.zz))))))))) ((w64 (z6 + 1))))) = true ∧
  (decide (pMu ((mgetD eqI ((mset eqI ((mset eqI ((mset eqI ((mset eqI (mset eqI [] 3 1) 2 6)) 1 4)) 0 3)) (-1) 2)) ((w64 ((selI (uniE m) (w64 (detZ m)) * (w64 (((w64 (m.xx + m.yy)) + m.zz))))))))) ((w64 (z6 + 1))) < pMu ((mgetD eqI ((mset eqI ((mset eqI ((mset eqI ((mset eqI (mset eqI [] 3 1) 2 6)) 1 4)) 0 3)) (-1) 2)) ((w64 ((selI (uniE m) (w64 (detZ m)) * (w64 (((w64 (m.xx + m.yy)) + m.zz))))))))) z6)) = true)))))) ∧
 ((decide (z6 < (mgetD eqI ((mset eqI ((mset eqI ((mset eqI ((mset eqI (mset eqI [] 3 1) 2 6)) 1 4)) 0 3)) (-1) 2)) ((w64 ((selI (uniE m) (w64 (detZ m)) * (w64 (((w64 (m.xx + m.yy)) + m.zz)))))))))) = false →
 ((mgetD eqI ((mset eqI ((mset eqI ((mset eqI ((mset eqI (mset eqI [] 3 1) 2 6)) 1 4)) 0 3)) (-1) 2)) ((w64 ((selI (uniE m) (w64 (detZ m)) * (w64 (((w64 (m.xx + m.yy)) + m.zz)))))))), (0, ())) = (ordZ m, (ordE m, ())))))))))))))) ∧
((decide (selI (uniE m) (w64 (detZ m)) < 0)) = false →
(True ∧
(((!powZ m ((mgetD eqI ((mset eqI ((mset eqI ((mset eqI ((mset eqI (mset eqI [] 3 1) 2 6)) 1 4)) 0 3)) (-1) 2)) ((w64 ((selI (uniE m) (w64 (detZ m)) * (w64 (((w64 (m.xx + m.yy)) + m.zz)))))))))) = true →
 (0, (9, ())) = (ordZ m, (ordE m, ()))) ∧
((!powZ m ((mgetD eqI ((mset eqI ((mset eqI ((mset eqI ((mset eqI (mset eqI [] 3 1) 2 6)) 1 4)) 0 3)) (-1) 2)) ((w64 ((selI (uniE m) (w64 (detZ m)) * (w64 (((w64 (m.xx + m.yy)) + m.zz)))))))))) = false →
(oInv m ((mgetD eqI ((mset eqI ((mset eqI ((mset eqI ((mset eqI (mset eqI [] 3 1) 2 6)) 1 4)) 0 3)) (-1) 2)) ((w64 ((selI (uniE m) (w64 (detZ m)) * (w64 (((w64 (m.xx + m.yy)) + m.zz))))))))) 1 ∧
∀ z5 : Int,
((decide ((-9223372036854775808) ≤ z5)) = true →
((decide (z5 ≤ 9223372036854775807)) = true →
(oInv m ((mgetD eqI ((mset eqI ((mset eqI ((mset eqI ((mset eqI (mset eqI [] 3 1) 2 6)) 1 4)) 0 3)) (-1) 2)) ((w64 ((selI (uniE m) (w64 (detZ m)) * (w64 (((w64 (m.xx + m.yy)) + m.zz))))))))) z5 →
(((decide (z5 < (mgetD eqI ((mset eqI ((mset eqI ((mset eqI ((mset eqI (mset eqI [] 3 1) 2 6)) 1 4)) 0 3)) (-1) 2)) ((w64 ((selI (uniE m) (w64 (detZ m)) * (w64 (((w64 (m.xx + m.yy)) + m.zz)))))))))) = true →
 ((z5 ≠ 0) ∧
 (((decide ((Int.tmod ((mgetD eqI ((mset eqI ((mset eqI ((mset eqI ((mset eqI (mset eqI [] 3 1) 2 6)) 1 4)) 0 3)) (-1) 2)) ((w64 ((selI (uniE m) (w64 (detZ m)) * (w64 (((w64 (m.xx + m.yy)) + m.zz))))))))) z5) = 0)) = true →
  (True ∧
  ((powZ m z5 = true →
   (z5, (0, ())) = (ordZ m, (ordE m, ()))) ∧
  (powZ m z5 = false →
  (oInv m ((mgetD eqI ((mset eqI ((mset eqI ((mset eqI ((mset eqI (mset eqI [] 3 1) 2 6)) 1 4)) 0 3)) (-1) 2)) ((w64 ((selI (uniE m) (w64 (detZ m)) * (w64 (((w64 (m.xx + m.yy)) + m.zz))))))))) ((w64 (z5 + 1))) ∧
  ((decide (0 ≤ pMu ((mgetD eqI ((mset eqI ((mset eqI ((mset eqI ((mset eqI (mset eqI [] 3 1) 2 6)) 1 4)) 0 3)) (-1) 2)) ((w64 ((selI (uniE m) (w64 (detZ m)) * (w64 (((w64 (m.xx + m.yy)) + m.zz))))))))) ((w64 (z5 + 1))))) = true ∧
  (decide (pMu ((mgetD eqI ((mset eqI ((mset eqI ((mset eqI ((mset eqI (mset eqI [] 3 1) 2 6)) 1 4)) 0 3)) (-1) 2)) ((w64 ((selI (uniE m) (w64 (detZ m)) * (w64 (((w64 (m.xx + m.yy)) + m.zz))))))))) ((w64 (z5 + 1))) < pMu ((mgetD eqI ((mset eqI ((mset eqI ((mset eqI ((mset eqI (mset eqI [] 3 1) 2 6)) 1 4)) 0 3)) (-1) 2)) ((w64 ((selI (uniE m) (w64 (detZ m)) * (w64 (((w64 (m.xx + m.yy)) + m.zz))))))))) z5)) = true)))))) ∧
 ((decide ((Int.tmod ((mgetD eqI ((mset eqI ((mset eqI ((mset eqI ((mset eqI (mset eqI [] 3 1) 2 6)) 1 4)) 0 3)) (-1) 2)) ((w64 ((selI (uniE m) (w64 (detZ m)) * (w64 (((w64 (m.xx + m.yy)) + m.zz))))))))) z5) = 0)) = false →
 (oInv m ((mgetD eqI ((mset eqI ((mset eqI ((mset eqI ((mset eqI (mset eqI [] 3 1) 2 6)) 1 4)) 0 3)) (-1) 2)) ((w64 ((selI (uniE m) (w64 (detZ m)) * (w64 (((w64 (m.xx + m.yy)) + m.zz))))))))) ((w64 (z5 + 1))) ∧
 ((decide (0 ≤ pMu ((mgetD eqI ((mset eqI ((mset eqI ((mset eqI ((mset eqI (mset eqI [] 3 1) 2 6)) 1 4)) 0 3)) (-1) 2)) ((w64 ((selI (uniE m) (w64 (detZ m)) * (w64 (((w64 (m.xx + m.yy)) + m.zz))))))))) ((w64 (z5 + 1))))) = true ∧
 (decide (pMu ((mgetD eqI ((mset eqI ((mset eqI ((mset eqI ((mset eqI (mset eqI [] 3 1) 2 6)) 1 4)) 0 3)) (-1) 2)) ((w64 ((selI (uniE m) (w64 (detZ m)) * (w64 (((w64 (m.xx + m.yy)) + m.zz))))))))) ((w64 (z5 + 1))) < pMu ((mgetD eqI ((mset eqI ((mset eqI ((mset eqI ((mset eqI (mset eqI [] 3 1) 2 6)) 1 4)) 0 3)) (-1) 2)) ((w64 ((selI (uniE m) (w64 (detZ m)) * (w64 (((w64 (m.xx + m.yy)) + m.zz))))))))) z5)) = true)))))) ∧
((decide (z5 < (mgetD eqI ((mset eqI ((mset eqI ((mset eqI ((mset eqI (mset eqI [] 3 1) 2 6)) 1 4)) 0 3)) (-1) 2)) ((w64 ((selI (uniE m) (w64 (detZ m)) * (w64 (((w64 (m.xx + m.yy)) + m.zz)))))))))) = false →
((mgetD eqI ((mset eqI ((mset eqI ((mset eqI ((mset eqI (mset eqI [] 3 1) 2 6)) 1 4)) 0 3)) (-1) 2)) ((w64 ((selI (uniE m) (w64 (detZ m)) * (w64 (((w64 (m.xx + m.yy)) + m.zz)))))))), (0, ())) = (ordZ m, (ordE m, ()))))))))))))))))))
theorem r_Order (x : HL C_Order.args) : runs (env0 [(70, C_unit), (71, C_power)] [(54, 13, { fix := [(.tmp 7, .int .i64), (.cell 1, .agg .mat)], vars := [(.tmp 9, .int .i64)], inv := fun y v => oInv y.2.1 y.1 v.1, mu := fun y v => pMu y.1 v.1 })] []) 400 54 C_Order x = T_Order x.1 := by kernel_rfl
theorem p_Order (m : M3) (h0 : (Sh.agg .mat).okA m) : T_Order m := by
  have no : ∀ {b : Bool}, (!b) = true → b = false := fun {b} h => by cases b <;> first | rfl | cases h
  have ye : ∀ {b : Bool}, (!b) = false → b = true := fun {b} h => by cases b <;> first | rfl | cases h
  refine ⟨trivial, fun h => ord_low (of_decide_eq_false (no h)), fun h => ?_⟩
  have hu : uniE m = 0 := of_decide_eq_true (ye h)
  refine ⟨fun h2 => ord_none hu (no h2), fun h2 => ?_⟩
  have hh : mhas eqI ordMap (ordT m) = true := ye h2
  obtain ⟨n1, n2⟩ := ordN_in hh
  refine ⟨fun hd => ⟨fun ht => ?_, fun ht => ?_⟩, fun hd => ?_⟩
  · have e : w64 (ordB m * 2) = ordN m := by
      unfold ordN; rw [if_pos (show ordD m < 0 from of_decide_eq_true hd), if_pos (show Int.tmod (ordB m) 2 = 1 from of_decide_eq_true ht)]
    exact ordTail (n := w64 (ordB m * 2)) (by rw [e]; exact n1) (by rw [e]; exact n2) (ord_some hu hh e)
  · have e : ordB m = ordN m := by
      unfold ordN; rw [if_pos (show ordD m < 0 from of_decide_eq_true hd), if_neg (show ¬ Int.tmod (ordB m) 2 = 1 from of_decide_eq_false ht)]
    exact ordTail (n := ordB m) (by rw [e]; exact n1) (by rw [e]; exact n2) (ord_some hu hh e)
  · have e : ordB m = ordN m := by
      unfold ordN; rw [if_neg (show ¬ ordD m < 0 from of_decide_eq_false hd)]
    exact ordTail (n := ordB m) (by rw [e]; exact n1) (by rw [e]; exact n2) (ord_some hu hh e)
theorem s_Order : Sound Try.prog 54 C_Order :=
  sound_of_eq (env0_ok (.cons s_unit (.cons s_power (.nil)))) (fun x => T_Order x.1) r_Order fun x ok hp => p_Order x.1 ok.1
end Go.Fx
