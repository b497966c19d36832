/-
  Contracts: VecPowers.
-/
import Derived.Test.YtgnidjcidocpkaaK13
namespace Go.Fx
open Go Go.Proofs
set_option maxRecDepth 100000
set_option linter.unusedVariables false
noncomputable def C_VecPowers : Contract := { args := [.agg .mat, .agg .mat], res := [.bool], pre := fun _ => True, F := fun x => ((true : Bool), ()) }
def T_VecPowers (m : M3) (p : M3) : Prop :=
  (True ∧
(((!true) = true →
 (false, ()) = (true, ())) ∧
((!true) = false →
(inK1000 3 ∧
(inK1000 3 ∧
(True ∧
∀ z3 : Int,
(z3 = ordZ (tamM 3 m) →
∀ z5 : Int,
(z5 = ordE (tamM 3 m) →
(((decide (z5 = 3)) = true →
 ((decide (z3 = 0)), ()) = (true, ())) ∧
((decide (z5 = 3)) = false →
(True ∧
(vpInv (tamM 3 m) z3 z5 1 (oneZ 1) ∧
∀ z8 : Int,
((decide ((-9223372036854775808) ≤ z8)) = true →
((decide (z8 ≤ 9223372036854775807)) = true →
∀ z11 : M3,
(vpInv (tamM 3 m) z3 z5 z8 z11 →
(((decide (z8 ≤ 12)) = true →
 (True ∧
 ∀ z14 : M3,
 (z14 = selM (err2 (errM z11) (errM (tamM 3 m))) (wM (mulZ z11 (tamM 3 m))) →
 ∀ z16 : Int,
 (z16 = err2 (errM z11) (errM (tamM 3 m)) →
 (((!(decide (z16 = 0))) = true →
  (((!(decide (z5 = 0))) = true →
   (((!(decide (z5 = 9))) = true →
    (false, ()) = (true, ())) ∧
   ((!(decide (z5 = 9))) = false →
   (((decide (z5 = 0)) = true →
    (((decide (z3 < 1)) = true →
     (false, ()) = (true, ())) ∧
    ((decide (z3 < 1)) = false →
    (((decide (6 < z3)) = true →
     (false, ()) = (true, ())) ∧
    ((decide (6 < z3)) = false →
    (((decide (z3 = 5)) = true →
     (false, ()) = (true, ())) ∧
    ((decide (z3 = 5)) = false →
    (True ∧
    ∀ z25 : M3,
    (z25 = selM (uniE (tamM 3 p)) (wM (scaZ (detZ (tamM 3 p)) (adjZ (tamM 3 p)))) →
    ∀ z27 : Int,
    (z27 = uniE (tamM 3 p) →
    (((!(decide (z27 = 0))) = true →
     (true, ()) = (true, ())) ∧
    ((!(decide (z27 = 0))) = false →
    (True ∧
    ∀ z30 : M3,
    (z30 = selM (err2 (errM (tamM 3 p)) (errM (tamM 3 m))) (wM (mulZ (tamM 3 p) (tamM 3 m))) →
    ∀ z32 : Int,
    (z32 = err2 (errM (tamM 3 p)) (errM (tamM 3 m)) →
    (True ∧
    ∀ z34 : M3,
    (z34 = selM (err2 (errM z30) (errM z25)) (wM (mulZ z30 z25)) →
    ∀ z36 : Int,
    (z36 = err2 (errM z30) (errM z25) →
    (((!(decide (z36 = 0))) = true →
     (true, ()) = (true, ())) ∧
    ((!(decide (z36 = 0))) = false →
    (True ∧
    ∀ z39 : Int,
    (z39 = errM z34 →
    (((!(decide (z39 = 0))) = true →
     (true, ()) = (true, ())) ∧
    ((!(decide (z39 = 0))) = false →
    (True ∧
    ∀ z42 : Int,
    (z42 = ordZ z34 →
    ∀ z44 : Int,
    (z44 = ordE z34 →
    (((decide (z42 = z3)) = true →
     ((decide (z44 = z5)), ()) = (true, ())) ∧
    ((decide (z42 = z3)) = false →
    (false, ()) = (true, ())))))))))))))))))))))))))))))) ∧
   ((decide (z5 = 0)) = false →
   (True ∧
   ∀ z22 : M3,
   (z22 = selM (uniE (tamM 3 p)) (wM (scaZ (detZ (tamM 3 p)) (adjZ (tamM 3 p)))) →
   ∀ z24 : Int,
   (z24 = uniE (tamM 3 p) →
   (((!(decide (z24 = 0))) = true →
    (true, ()) = (true, ())) ∧
   ((!(decide (z24 = 0))) = false →
   (True ∧
   ∀ z27 : M3,
   (z27 = selM (err2 (errM (tamM 3 p)) (errM (tamM 3 m))) (wM (mulZ (tamM 3 p) (tamM 3 m))) →
   ∀ z29 : Int,
   (z29 = err2 (errM (tamM 3 p)) (errM (tamM 3 m)) →
   (True ∧
   ∀ z31 : M3,
   (z31 = selM (err2 (errM z27) (errM z22)) (wM (mulZ z27 z22)) →
   ∀ z33 : Int,
   (z33 = err2 (errM z27) (errM z22) →
   (((!(decide (z33 = 0))) = true →
    (true, ()) = (true, ())) ∧
   ((!(decide (z33 = 0))) = false →
   (True ∧
   ∀ z36 : Int,
   (z36 = errM z31 →
   (((!(decide (z36 = 0))) = true →
    (true, ()) = (true, ())) ∧
   ((!(decide (z36 = 0))) = false →
   (True ∧
   ∀ z39 : Int,
   (z39 = ordZ z31 →
   ∀ z41 : Int,
   (z41 = ordE z31 →
   (((decide (z39 = z3)) = true →
    ((decide (z41 = z5)), ()) = (true, ())) ∧
   ((decide (z39 = z3)) = false →
   (false, ()) = (true, ())))))))))))))))))))))))))))) ∧
  ((!(decide (z5 = 0))) = false →
  (((decide (z5 = 0)) = true →
   (((decide (z3 < 1)) = true →
    (false, ()) = (true, ())) ∧
   ((decide (z3 < 1)) = false →
   (((decide (6 < z3)) = true →
    (false, ()) = (true, ())) ∧
   ((decide (6 < z3)) = false →
   (((decide (z3 = 5)) = true →
    (false, ()) = (true, ())) ∧
   ((decide (z3 = 5)) = false →
   (True ∧
   ∀ z24 : M3,
   (z24 = selM (uniE (tamM 3 p)) (wM (scaZ (detZ (tamM 3 p)) (adjZ (tamM 3 p)))) →
   ∀ z26 : Int,
   (z26 = uniE (tamM 3 p) →
   (((!(decide (z26 = 0))) = true →
    (true, ()) = (true, ())) ∧
   ((!(decide (z26 = 0))) = false →
   (True ∧
   ∀ z29 : M3,
   (z29 = selM (err2 (errM (tamM 3 p)) (errM (tamM 3 m))) (wM (mulZ (tamM 3 p) (tamM 3 m))) →
   ∀ z31 : Int,
   (z31 = err2 (errM (tamM 3 p)) (errM (tamM 3 m)) →
   (True ∧
   ∀ z33 : M3,
   (z33 = selM (err2 (errM z29) (errM z24)) (wM (mulZ z29 z24)) →
   ∀ z35 : Int,
   (z35 = err2 (errM z29) (errM z24) →
   (((!(decide (z35 = 0))) = true →
    (true, ()) = (true, ())) ∧
   ((!(decide (z35 = 0))) = false →
   (True ∧
   ∀ z38 : Int,
   (z38 = errM z33 →
   (((!(decide (z38 = 0))) = true →
    (true, ()) = (true, ())) ∧
   ((!(decide (z38 = 0))) = false →
   (True ∧
   ∀ z41 : Int,
   (z41 = ordZ z33 →
   ∀ z43 : Int,
   (z43 = ordE z33 →
   (((decide (z41 = z3)) = true →
    ((decide (z43 = z5)), ()) = (true, ())) ∧
   ((decide (z41 = z3)) = false →
   (false, ()) = (true, ())))))))))))))))))))))))))))))) ∧
  ((decide (z5 = 0)) = false →
  (True ∧
  ∀ z21 : M3,
  (z21 = selM (uniE (tamM 3 p)) (wM (scaZ (detZ (tamM 3 p)) (adjZ (tamM 3 p)))) →
  ∀ z23 : Int,
  (z23 = uniE (tamM 3 p) →
  (((!(decide (z23 = 0))) = true →
   (true, ()) = (true, ())) ∧
  ((!(decide (z23 = 0))) = false →
  (True ∧
  ∀ z26 : M3,
  (z26 = selM (err2 (errM (tamM 3 p)) (errM (tamM 3 m))) (wM (mulZ (tamM 3 p) (tamM 3 m))) →
  ∀ z28 : Int,
  (z28 = err2 (errM (tamM 3 p)) (errM (tamM 3 m)) →
  (True ∧
  ∀ z30 : M3,
  (z30 = selM (err2 (errM z26) (errM z21)) (wM (mulZ z26 z21)) →
  ∀ z32 : Int,
  (z32 = err2 (errM z26) (errM z21) →
  (((!(decide (z32 = 0))) = true →
   (true, ()) = (true, ())) ∧
  ((!(decide (z32 = 0))) = false →
  (True ∧
  ∀ z35 : Int,
  (z35 = errM z30 →
  (((!(decide (z35 = 0))) = true →
   (true, ()) = (true, ())) ∧
  ((!(decide (z35 = 0))) = false →
  (True ∧
  ∀ z38 : Int,
  (z38 = ordZ z30 →
  ∀ z40 : Int,
  (z40 = ordE z30 →
  (((decide (z38 = z3)) = true →
   ((decide (z40 = z5)), ()) = (true, ())) ∧
  ((decide (z38 = z3)) = false →
  (false, ()) = (true, ())))))))))))))))))))))))))))) ∧
 ((!(decide (z16 = 0))) = false →
 (True ∧
 (((decide (z5 = 0)) = true →
  (((!(((decide (z14.xx = (oneZ 1).xx)) && ((decide (z14.xy = (oneZ 1).xy)) && ((decide (z14.xz = (oneZ 1).xz)) && ((decide (z14.yx = (oneZ 1).yx)) && ((decide (z14.yy = (oneZ 1).yy)) && ((decide (z14.yz = (oneZ 1).yz)) && ((decide (z14.zx = (oneZ 1).zx)) && ((decide (z14.zy = (oneZ 1).zy)) && ((decide (z14.zz = (oneZ 1).zz)) && true))))))))) == (decide ((Int.tmod z8 (zmax z3 1)) = 0)))) = true →
   (false, ()) = (true, ())) ∧
  ((!(((decide (z14.xx = (oneZ 1).xx)) && ((decide (z14.xy = (oneZ 1).xy)) && ((decide (z14.xz = (oneZ 1).xz)) && ((decide (z14.yx = (oneZ 1).yx)) && ((decide (z14.yy = (oneZ 1).yy)) && ((decide (z14.yz = (oneZ 1).yz)) && ((decide (z14.zx = (oneZ 1).zx)) && ((decide (z14.zy = (oneZ 1).zy)) && ((decide (z14.zz = (oneZ 1).zz)) && true))))))))) == (decide ((Int.tmod z8 (zmax z3 1)) = 0)))) = false →
  (vpInv (tamM 3 m) z3 z5 ((w64 (z8 + 1))) z14 ∧
  ((decide (0 ≤ pMu 13 ((w64 (z8 + 1))))) = true ∧
  (decide (pMu 13 ((w64 (z8 + 1))) < pMu 13 z8)) = true))))) ∧
 ((decide (z5 = 0)) = false →
 (((!(((decide (z14.xx = (oneZ 1).xx)) && ((decide (z14.xy = (oneZ 1).xy)) && ((decide (z14.xz = (oneZ 1).xz)) && ((decide (z14.yx = (oneZ 1).yx)) && ((decide (z14.yy = (oneZ 1).yy)) && ((decide (z14.yz = (oneZ 1).yz)) && ((decide (z14.zx = (oneZ 1).zx)) && ((decide (z14.zy = (oneZ 1).zy)) && ((decide (z14.zz = (oneZ 1).zz)) && true))))))))) == false)) = true →
  (false, ()) = (true, ())) ∧
 ((!(((decide (z14.xx = (oneZ 1).xx)) && ((decide (z14.xy = (oneZ 1).xy)) && ((decide (z14.xz = (oneZ 1).xz)) && ((decide (z14.yx = (oneZ 1).yx)) && ((decide (z14.yy = (oneZ 1).yy)) && ((decide (z14.yz = (oneZ 1).yz)) && ((decide (z14.zx = (oneZ 1).zx)) && ((decide (z14.zy = (oneZ 1).zy)) && ((decide (z14.zz = (oneZ 1).zz)) && true))))))))) == false)) = false →
 (vpInv (tamM 3 m) z3 z5 ((w64 (z8 + 1))) z14 ∧
 ((decide (0 ≤ pMu 13 ((w64 (z8 + 1))))) = true ∧
 (decide (pMu 13 ((w64 (z8 + 1))) < pMu 13 z8)) = true))))))))))))) ∧
((decide (z8 ≤ 12)) = false →
(((!(decide (z5 = 0))) = true →
 (((!(decide (z5 = 9))) = true →
  (false, ()) = (true, ())) ∧
 ((!(decide (z5 = 9))) = false →
 (((decide (z5 = 0)) = true →
  (((decide (z3 < 1)) = true →
   (false, ()) = (true, ())) ∧
  ((decide (z3 < 1)) = false →
  (((decide (6 < z3)) = true →
   (false, ()) = (true, ())) ∧
  ((decide (6 < z3)) = false →
  (((decide (z3 = 5)) = true →
   (false, ()) = (true, ())) ∧
  ((decide (z3 = 5)) = false →
  (True ∧
  ∀ z20 : M3,
  (z20 = selM (uniE (tamM 3 p)) (wM (scaZ (detZ (tamM 3 p)) (adjZ (tamM 3 p)))) →
  ∀ z22 : Int,
  (z22 = uniE (tamM 3 p) →
  (((!(decide (z22 = 0))) = true →
   (true, ()) = (true, ())) ∧
  ((!(decide (z22 = 0))) = false →
  (True ∧
  ∀ z25 : M3,
  (z25 = selM (err2 (errM (tamM 3 p)) (errM (tamM 3 m))) (wM (mulZ (tamM 3 p) (tamM 3 m))) →
  ∀ z27 : Int,
  (z27 = err2 (errM (tamM 3 p)) (errM (tamM 3 m)) →
  (True ∧
  ∀ z29 : M3,
  (z29 = selM (err2 (errM z25) (errM z20)) (wM (mulZ z25 z20)) →
  ∀ z31 : Int,
  (z31 = err2 (errM z25) (errM z20) →
  (((!(decide (z31 = 0))) = true →
   (true, ()) = (true, ())) ∧
  ((!(decide (z31 = 0))) = false →
  (True ∧
  ∀ z34 : Int,
  (z34 = errM z29 →
  (((!(decide (z34 = 0))) = true →
   (true, ()) = (true, ())) ∧
  ((!(decide (z34 = 0))) = false →
  (True ∧
  ∀ z37 : Int,
  (z37 = ordZ z29 →
  ∀ z39 : Int,
  (z39 = ordE z29 →
  (((decide (z37 = z3)) = true →
   ((decide (z39 = z5)), ()) = (true, ())) ∧
  ((decide (z37 = z3)) = false →
  (false, ()) = (true, ())))))))))))))))))))))))))))))) ∧
 ((decide (z5 = 0)) = false →
 (True ∧
 ∀ z17 : M3,
 (z17 = selM (uniE (tamM 3 p)) (wM (scaZ (detZ (tamM 3 p)) (adjZ (tamM 3 p)))) →
 ∀ z19 : Int,
 (z19 = uniE (tamM 3 p) →
 (((!(decide (z19 = 0))) = true →
  (true, ()) = (true, ())) ∧
 ((!(decide (z19 = 0))) = false →
 (True ∧
 ∀ z22 : M3,
 (z22 = selM (err2 (errM (tamM 3 p)) (errM (tamM 3 m))) (wM (mulZ (tamM 3 p) (tamM 3 m))) →
 ∀ z24 : Int,
 (z24 = err2 (errM (tamM 3 p)) (errM (tamM 3 m)) →
 (True ∧
 ∀ z26 : M3,
 (z26 = selM (err2 (errM z22) (errM z17)) (wM (mulZ z22 z17)) →
 ∀ z28 : Int,
 (z28 = err2 (errM z22) (errM z17) →
 (((!(decide (z28 = 0))) = true →
  (true, ()) = (true, ())) ∧
 ((!(decide (z28 = 0))) = false →
 (True ∧
 ∀ z31 : Int,
 (z31 = errM z26 →
 (((!(decide (z31 = 0))) = true →
  (true, ()) = (true, ())) ∧
 ((!(decide (z31 = 0))) = false →
 (True ∧
 ∀ z34 : Int,
 (z34 = ordZ z26 →
 ∀ z36 : Int,
 (z36 = ordE z26 →
 (((decide (z34 = z3)) = true →
  ((decide (z36 = z5)), ()) = (true, ())) ∧
 ((decide (z34 = z3)) = false →
 (false, ()) = (true, ())))))))))))))))))))))))))))) ∧
((!(decide (z5 = 0))) = false →
(((decide (z5 = 0)) = true →
 (((decide (z3 < 1)) = true →
  (false, ()) = (true, ())) ∧
 ((decide (z3 < 1)) = false →
 (((decide (6 < z3)) = true →
  (false, ()) = (true, ())) ∧
 ((decide (6 < z3)) = false →
 (((decide (z3 = 5)) = true →
  (false, ()) = (true, ())) ∧
 ((decide (z3 = 5)) = false →
 (True ∧
 ∀ z19 : M3,
 (z19 = selM (uniE (tamM 3 p)) (wM (scaZ (detZ (tamM 3 p)) (adjZ (tamM 3 p)))) →
 ∀ z21 : Int,
 (z21 = uniE (tamM 3 p) →
 (((!(decide (z21 = 0))) = true →
  (true, ()) = (true, ())) ∧
 ((!(decide (z21 = 0))) = false →
 (True ∧
 ∀ z24 : M3,
 (z24 = selM (err2 (errM (tamM 3 p)) (errM (tamM 3 m))) (wM (mulZ (tamM 3 p) (tamM 3 m))) →
 ∀ z26 : Int,
 (z26 = err2 (errM (tamM 3 p)) (errM (tamM 3 m)) →
 (True ∧
 ∀ z28 : M3,
 (z28 = selM (err2 (errM z24) (errM z19)) (wM (mulZ z24 z19)) →
 ∀ z30 : Int,
 (z30 = err2 (errM z24) (errM z19) →
 (((!(decide (z30 = 0))) = true →
  (true, ()) = (true, ())) ∧
 ((!(decide (z30 = 0))) = false →
 (True ∧
 ∀ z33 : Int,
 (z33 = errM z28 →
 (((!(decide (z33 = 0))) = true →
  (true, ()) = (true, ())) ∧
 ((!(decide (z33 = 0))) = false →
 (True ∧
 ∀ z36 : Int,
 (z36 = ordZ z28 →
 ∀ z38 : Int,
 (z38 = ordE z28 →
 (((decide (z36 = z3)) = true →
  ((decide (z38 = z5)), ()) = (true, ())) ∧
 ((decide (z36 = z3)) = false →
 (false, ()) = (true, ())))))))))))))))))))))))))))))) ∧
((decide (z5 = 0)) = false →
(True ∧
∀ z16 : M3,
(z16 = selM (uniE (tamM 3 p)) (wM (scaZ (detZ (tamM 3 p)) (adjZ (tamM 3 p)))) →
∀ z18 : Int,
(z18 = uniE (tamM 3 p) →
(((!(decide (z18 = 0))) = true →
 (true, ()) = (true, ())) ∧
((!(decide (z18 = 0))) = false →
(True ∧
∀ z21 : M3,
(z21 = selM (err2 (errM (tamM 3 p)) (errM (tamM 3 m))) (wM (mulZ (tamM 3 p) (tamM 3 m))) →
∀ z23 : Int,
(z23 = err2 (errM (tamM 3 p)) (errM (tamM 3 m)) →
(True ∧
∀ z25 : M3,
(z25 = selM (err2 (errM z21) (errM z16)) (wM (mulZ z21 z16)) →
∀ z27 : Int,
(z27 = err2 (errM z21) (errM z16) →
(((!(decide (z27 = 0))) = true →
 (true, ()) = (true, ())) ∧
((!(decide (z27 = 0))) = false →
(True ∧
∀ z30 : Int,
(z30 = errM z25 →
(((!(decide (z30 = 0))) = true →
 (true, ()) = (true, ())) ∧
((!(decide (z30 = 0))) = false →
(True ∧
∀ z33 : Int,
(z33 = ordZ z25 →
∀ z35 : Int,
(z35 = ordE z25 →
(((decide (z33 = z3)) = true →
 ((decide (z35 = z5)), ()) = (true, ())) ∧
((decide (z33 = z3)) = false →
(false, ()) = (true, ()))))))))))))))))))))))))))))))))))))))))))))
theorem r_VecPowers (x : HL C_VecPowers.args) : runs (env [(10, C_awake), (21, C_tame.hid), (27, C_Order.hid), (29, C_Identity), (11, C_Mul.hid), (25, C_Inverse.hid), (30, C_check.hid)] [(7, 9, { fix := [(.tmp 5, .int .i64), (.tmp 6, .int .i64), (.cell 2, .agg .mat)], vars := [(.tmp 8, .int .i64), (.cell 7, .agg .mat)], inv := fun y v => vpInv y.2.2.1 y.1 y.2.1 v.1 v.2.1, mu := fun y v => pMu 13 v.1 })]) 400 7 C_VecPowers x = T_VecPowers x.1 x.2.1 := by kernel_rfl
theorem p_VecPowers (m : M3) (p : M3) (h0 : (Sh.agg .mat).okA m) (h1 : (Sh.agg .mat).okA p) : T_VecPowers m p := by
  have hM := tamM_B (k := 3) (by decide) m
  have hP := tamM_B (k := 3) (by decide) p
  unfold T_VecPowers
  generalize tamM 3 m = M at hM ⊢
  generalize tamM 3 p = P at hP ⊢
  have e0 := errM_B (by decide) hM
  have hdB := detZ_B hM
  have d0 : w64 (detZ M) = detZ M := w64_id (by omega) (by omega)
  refine ⟨trivial, fun h => absurd h (by decide), fun _ => ⟨⟨by decide, by decide⟩, ⟨by decide, by decide⟩, trivial, fun n hn e he => ⟨fun h3 => ?_, fun h3 => ?_⟩⟩⟩
  · have h3 := of_decide_eq_true h3
    rw [he] at h3
    have hz : n = 0 := by
      rw [hn]
      by_cases hu : uniE M = 0
      · rw [(ord_vals hu).2] at h3; split at h3 <;> exact absurd h3 (by decide)
      · unfold ordZ ordR; rw [if_neg hu]
    rw [hz]; rfl
  · have hu : uniE M = 0 := by
      by_cases hu : uniE M = 0
      · exact hu
      · exfalso
        apply of_decide_eq_false h3
        rw [he]; unfold ordE ordR; rw [if_neg hu]
        show uniE M = 3
        unfold uniE at hu ⊢
        rw [if_pos e0] at hu ⊢
        split at hu
        · exact absurd rfl hu
        · rename_i hd; rw [if_neg hd]
    have hend := vp_end hM hP hu
    rw [← hn, ← he] at hend
    obtain ⟨v3, v4⟩ := ord_vals hu
    refine ⟨trivial, ⟨by decide, by decide, rfl⟩, fun k _ _ A hI => ⟨fun hk => ⟨trivial, fun z hz f hf => ⟨fun hb => hend, fun hb => ⟨trivial, ?_⟩⟩⟩, fun hk => hend⟩⟩
    obtain ⟨i1, i2, i3⟩ := hI
    have hk := of_decide_eq_true hk
    have hb : f = 0 := of_decide_eq_true (ye_not hb)
    rw [hf] at hb
    obtain ⟨hA, _⟩ := err2_zero hb
    have hzA : z = powI M k.toNat := by
      rw [hz, hb]
      show wM (mulZ A M) = _
      rw [wM_id (by decide) (mulZ_B (okM_B (errM_ok.1 hA)) hM), i3, show k.toNat = (k - 1).toNat + 1 by omega]
      rfl
    have w1 : w64 (k + 1) = k + 1 := w64_id (by omega) (by omega)
    have next : vpInv M n e (w64 (k + 1)) z ∧ ((decide (0 ≤ pMu 13 (w64 (k + 1)))) = true ∧ (decide (pMu 13 (w64 (k + 1)) < pMu 13 k)) = true) := by
      rw [w1]
      refine ⟨⟨by omega, by omega, ?_⟩, decide_eq_true (by unfold pMu; omega), decide_eq_true (by unfold pMu; omega)⟩
      rw [hzA, show k + 1 - 1 = k by omega]
    have hdd := (uniE_ok hu).2.2
    refine ⟨fun h0 => ⟨fun hc => ?_, fun _ => next⟩, fun h0 => ⟨fun hc => ?_, fun _ => next⟩⟩
    · exfalso
      have h0 := of_decide_eq_true h0
      rw [he, v4] at h0
      have hr : rordX M ≠ 0 := fun e => by rw [if_pos e] at h0; exact absurd h0 (by decide)
      obtain ⟨r, r1, r2, r3, r4, r5, r6⟩ := min_order hr
      have hnr : n = (r : Int) := by rw [hn, v3, r1]
      have hm : zmax n 1 = (r : Int) := by unfold zmax; rw [hnr]; split <;> omega
      have hi := pow_iff r2 r5 r6 k.toNat
      have hc := no_not hc
      have key : eqM z (oneZ 1) = decide (Int.tmod k (zmax n 1) = 0) := by
        rw [Bool.eq_iff_iff, eqM_iff, hzA, hi, hm, decide_eq_true_iff, Int.tmod_eq_emod_of_nonneg (by omega)]
        have : k % (r : Int) = ((k.toNat % r : Nat) : Int) := by rw [Int.natCast_emod]; congr 1; omega
        rw [this]; omega
      have hc : (eqM z (oneZ 1) == decide (Int.tmod k (zmax n 1) = 0)) = false := hc
      rw [key] at hc
      simp at hc
    · exfalso
      have h0 := of_decide_eq_false h0
      rw [he, v4] at h0
      have hr : rordX M = 0 := by
        by_cases e : rordX M = 0
        · exact e
        · rw [if_neg e] at h0; exact absurd rfl h0
      have hc := no_not hc
      have key : eqM z (oneZ 1) = false := by
        rw [Bool.eq_false_iff, ne_eq, eqM_iff, hzA]
        exact none12 hM hdd hr (by omega) (by omega)
      have hc : (eqM z (oneZ 1) == false) = false := hc
      rw [key] at hc
      exact absurd hc (by decide)
theorem s_VecPowers : Sound Try.prog 7 C_VecPowers :=
  sound_of_eq (env_ok (.cons s_awake (.cons s_tame.hid (.cons s_Order.hid (.cons s_Identity (.cons s_Mul.hid (.cons s_Inverse.hid (.cons s_check.hid (.nil))))))))) (fun x => T_VecPowers x.1 x.2.1) r_VecPowers fun x ok hp => p_VecPowers x.1 x.2.1 ok.1 ok.2.1
end Go.Fx
