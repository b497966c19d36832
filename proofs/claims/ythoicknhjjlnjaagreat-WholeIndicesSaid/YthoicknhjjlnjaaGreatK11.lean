/-
  Contracts: ttimes, signs, sixfold, seeded, seeds, tawake.
-/
import Derived.Test.YthoicknhjjlnjaaGreatK10
namespace Go.Fx
open Go Go.Proofs
set_option maxRecDepth 100000
set_option linter.unusedVariables false
set_option linter.unusedSimpArgs false
set_option linter.unusedSectionVars false
noncomputable def C_ttimes : Contract := { args := [.agg .mat, .agg .mat], res := [.agg .mat], pre := fun _ => True, F := fun x => ((wM (mulZ x.1 x.2.1) : M3), ()) }
def T_ttimes (a : M3) (b : M3) : Prop :=
  ((M3.mk ((w64 (((w64 (((w64 (a.xx * b.xx)) + (w64 (a.xy * b.yx))))) + (w64 (a.xz * b.zx)))))) ((w64 (((w64 (((w64 (a.xx * b.xy)) + (w64 (a.xy * b.yy))))) + (w64 (a.xz * b.zy)))))) ((w64 (((w64 (((w64 (a.xx * b.xz)) + (w64 (a.xy * b.yz))))) + (w64 (a.xz * b.zz)))))) ((w64 (((w64 (((w64 (a.yx * b.xx)) + (w64 (a.yy * b.yx))))) + (w64 (a.yz * b.zx)))))) ((w64 (((w64 (((w64 (a.yx * b.xy)) + (w64 (a.yy * b.yy))))) + (w64 (a.yz * b.zy)))))) ((w64 (((w64 (((w64 (a.yx * b.xz)) + (w64 (a.yy * b.yz))))) + (w64 (a.yz * b.zz)))))) ((w64 (((w64 (((w64 (a.zx * b.xx)) + (w64 (a.zy * b.yx))))) + (w64 (a.zz * b.zx)))))) ((w64 (((w64 (((w64 (a.zx * b.xy)) + (w64 (a.zy * b.yy))))) + (w64 (a.zz * b.zy)))))) ((w64 (((w64 (((w64 (a.zx * b.xz)) + (w64 (a.zy * b.yz))))) + (w64 (a.zz * b.zz))))))), ()) = (wM (mulZ a b), ())
theorem r_ttimes (x : HL C_ttimes.args) : runs (env0 [] [] []) 400 37 C_ttimes x = T_ttimes x.1 x.2.1 := by kernel_rfl
theorem p_ttimes (a : M3) (b : M3) (h0 : (Sh.agg .mat).okA a) (h1 : (Sh.agg .mat).okA b) : T_ttimes a b := by
  simp only [T_ttimes, wM, mulZ, Int.zero_add, w64_add_l, w64_add_r, w64_sub_l, w64_sub_r, w64_mul_l, w64_mul_r, w64_w64]
theorem s_ttimes : Sound Tryz.prog 37 C_ttimes :=
  sound_of_eq (env0_ok (.nil)) (fun x => T_ttimes x.1 x.2.1) r_ttimes fun x ok hp => p_ttimes x.1 x.2.1 ok.1 ok.2.1
noncomputable def C_signs : Contract := { args := [.int .u8], res := [.agg .mat], pre := fun _ => True, F := fun x => ((sgnM x.1 : M3), ()) }
def T_signs (k : Int) : Prop :=
  ((eqP (((k % 48) / 8)) 0 →
 (((decide ((((k % 48) / 1) % 2) = 1)) = true →
  (((decide ((((k % 48) / 2) % 2) = 1)) = true →
   (((decide ((((k % 48) / 4) % 2) = 1)) = true →
    ((M3.mk (-1) 0 0 0 (-1) 0 0 0 (-1)), ()) = (sgnM k, ())) ∧
   ((decide ((((k % 48) / 4) % 2) = 1)) = false →
   ((M3.mk (-1) 0 0 0 (-1) 0 0 0 1), ()) = (sgnM k, ())))) ∧
  ((decide ((((k % 48) / 2) % 2) = 1)) = false →
  (((decide ((((k % 48) / 4) % 2) = 1)) = true →
   ((M3.mk (-1) 0 0 0 1 0 0 0 (-1)), ()) = (sgnM k, ())) ∧
  ((decide ((((k % 48) / 4) % 2) = 1)) = false →
  ((M3.mk (-1) 0 0 0 1 0 0 0 1), ()) = (sgnM k, ())))))) ∧
 ((decide ((((k % 48) / 1) % 2) = 1)) = false →
 (((decide ((((k % 48) / 2) % 2) = 1)) = true →
  (((decide ((((k % 48) / 4) % 2) = 1)) = true →
   ((M3.mk 1 0 0 0 (-1) 0 0 0 (-1)), ()) = (sgnM k, ())) ∧
  ((decide ((((k % 48) / 4) % 2) = 1)) = false →
  ((M3.mk 1 0 0 0 (-1) 0 0 0 1), ()) = (sgnM k, ())))) ∧
 ((decide ((((k % 48) / 2) % 2) = 1)) = false →
 (((decide ((((k % 48) / 4) % 2) = 1)) = true →
  ((M3.mk 1 0 0 0 1 0 0 0 (-1)), ()) = (sgnM k, ())) ∧
 ((decide ((((k % 48) / 4) % 2) = 1)) = false →
 ((M3.mk 1 0 0 0 1 0 0 0 1), ()) = (sgnM k, ())))))))) ∧
((eqP (((k % 48) / 8)) 1 →
 (((decide ((((k % 48) / 1) % 2) = 1)) = true →
  (((decide ((((k % 48) / 2) % 2) = 1)) = true →
   (((decide ((((k % 48) / 4) % 2) = 1)) = true →
    ((M3.mk (-1) 0 0 0 0 (-1) 0 (-1) 0), ()) = (sgnM k, ())) ∧
   ((decide ((((k % 48) / 4) % 2) = 1)) = false →
   ((M3.mk (-1) 0 0 0 0 (-1) 0 1 0), ()) = (sgnM k, ())))) ∧
  ((decide ((((k % 48) / 2) % 2) = 1)) = false →
  (((decide ((((k % 48) / 4) % 2) = 1)) = true →
   ((M3.mk (-1) 0 0 0 0 1 0 (-1) 0), ()) = (sgnM k, ())) ∧
  ((decide ((((k % 48) / 4) % 2) = 1)) = false →
  ((M3.mk (-1) 0 0 0 0 1 0 1 0), ()) = (sgnM k, ())))))) ∧
 ((decide ((((k % 48) / 1) % 2) = 1)) = false →
 (((decide ((((k % 48) / 2) % 2) = 1)) = true →
  (((decide ((((k % 48) / 4) % 2) = 1)) = true →
   ((M3.mk 1 0 0 0 0 (-1) 0 (-1) 0), ()) = (sgnM k, ())) ∧
  ((decide ((((k % 48) / 4) % 2) = 1)) = false →
  ((M3.mk 1 0 0 0 0 (-1) 0 1 0), ()) = (sgnM k, ())))) ∧
 ((decide ((((k % 48) / 2) % 2) = 1)) = false →
 (((decide ((((k % 48) / 4) % 2) = 1)) = true →
  ((M3.mk 1 0 0 0 0 1 0 (-1) 0), ()) = (sgnM k, ())) ∧
 ((decide ((((k % 48) / 4) % 2) = 1)) = false →
 ((M3.mk 1 0 0 0 0 1 0 1 0), ()) = (sgnM k, ())))))))) ∧
((eqP (((k % 48) / 8)) 2 →
 (((decide ((((k % 48) / 1) % 2) = 1)) = true →
  (((decide ((((k % 48) / 2) % 2) = 1)) = true →
   (((decide ((((k % 48) / 4) % 2) = 1)) = true →
    ((M3.mk 0 (-1) 0 (-1) 0 0 0 0 (-1)), ()) = (sgnM k, ())) ∧
   ((decide ((((k % 48) / 4) % 2) = 1)) = false →
   ((M3.mk 0 (-1) 0 (-1) 0 0 0 0 1), ()) = (sgnM k, ())))) ∧
  ((decide ((((k % 48) / 2) % 2) = 1)) = false →
  (((decide ((((k % 48) / 4) % 2) = 1)) = true →
   ((M3.mk 0 (-1) 0 1 0 0 0 0 (-1)), ()) = (sgnM k, ())) ∧
  ((decide ((((k % 48) / 4) % 2) = 1)) = false →
  ((M3.mk 0 (-1) 0 1 0 0 0 0 1), ()) = (sgnM k, ())))))) ∧
 ((decide ((((k % 48) / 1) % 2) = 1)) = false →
 (((decide ((((k % 48) / 2) % 2) = 1)) = true →
  (((decide ((((k % 48) / 4) % 2) = 1)) = true →
   ((M3.mk 0 1 0 (-1) 0 0 0 0 (-1)), ()) = (sgnM k, ())) ∧
  ((decide ((((k % 48) / 4) % 2) = 1)) = false →
  ((M3.mk 0 1 0 (-1) 0 0 0 0 1), ()) = (sgnM k, ())))) ∧
 ((decide ((((k % 48) / 2) % 2) = 1)) = false →
 (((decide ((((k % 48) / 4) % 2) = 1)) = true →
  ((M3.mk 0 1 0 1 0 0 0 0 (-1)), ()) = (sgnM k, ())) ∧
 ((decide ((((k % 48) / 4) % 2) = 1)) = false →
 ((M3.mk 0 1 0 1 0 0 0 0 1), ()) = (sgnM k, ())))))))) ∧
((eqP (((k % 48) / 8)) 3 →
 (((decide ((((k % 48) / 1) % 2) = 1)) = true →
  (((decide ((((k % 48) / 2) % 2) = 1)) = true →
   (((decide ((((k % 48) / 4) % 2) = 1)) = true →
    ((M3.mk 0 (-1) 0 0 0 (-1) (-1) 0 0), ()) = (sgnM k, ())) ∧
   ((decide ((((k % 48) / 4) % 2) = 1)) = false →
   ((M3.mk 0 (-1) 0 0 0 (-1) 1 0 0), ()) = (sgnM k, ())))) ∧
  ((decide ((((k % 48) / 2) % 2) = 1)) = false →
  (((decide ((((k % 48) / 4) % 2) = 1)) = true →
   ((M3.mk 0 (-1) 0 0 0 1 (-1) 0 0), ()) = (sgnM k, ())) ∧
  ((decide ((((k % 48) / 4) % 2) = 1)) = false →
  ((M3.mk 0 (-1) 0 0 0 1 1 0 0), ()) = (sgnM k, ())))))) ∧
 ((decide ((((k % 48) / 1) % 2) = 1)) = false →
 (((decide ((((k % 48) / 2) % 2) = 1)) = true →
  (((decide ((((k % 48) / 4) % 2) = 1)) = true →
   ((M3.mk 0 1 0 0 0 (-1) (-1) 0 0), ()) = (sgnM k, ())) ∧
  ((decide ((((k % 48) / 4) % 2) = 1)) = false →
  ((M3.mk 0 1 0 0 0 (-1) 1 0 0), ()) = (sgnM k, ())))) ∧
 ((decide ((((k % 48) / 2) % 2) = 1)) = false →
 (((decide ((((k % 48) / 4) % 2) = 1)) = true →
  ((M3.mk 0 1 0 0 0 1 (-1) 0 0), ()) = (sgnM k, ())) ∧
 ((decide ((((k % 48) / 4) % 2) = 1)) = false →
 ((M3.mk 0 1 0 0 0 1 1 0 0), ()) = (sgnM k, ())))))))) ∧
((eqP (((k % 48) / 8)) 4 →
 (((decide ((((k % 48) / 1) % 2) = 1)) = true →
  (((decide ((((k % 48) / 2) % 2) = 1)) = true →
   (((decide ((((k % 48) / 4) % 2) = 1)) = true →
    ((M3.mk 0 0 (-1) (-1) 0 0 0 (-1) 0), ()) = (sgnM k, ())) ∧
   ((decide ((((k % 48) / 4) % 2) = 1)) = false →
   ((M3.mk 0 0 (-1) (-1) 0 0 0 1 0), ()) = (sgnM k, ())))) ∧
  ((decide ((((k % 48) / 2) % 2) = 1)) = false →
  (((decide ((((k % 48) / 4) % 2) = 1)) = true →
   ((M3.mk 0 0 (-1) 1 0 0 0 (-1) 0), ()) = (sgnM k, ())) ∧
  ((decide ((((k % 48) / 4) % 2) = 1)) = false →
  ((M3.mk 0 0 (-1) 1 0 0 0 1 0), ()) = (sgnM k, ())))))) ∧
 ((decide ((((k % 48) / 1) % 2) = 1)) = false →
 (((decide ((((k % 48) / 2) % 2) = 1)) = true →
  (((decide ((((k % 48) / 4) % 2) = 1)) = true →
   ((M3.mk 0 0 1 (-1) 0 0 0 (-1) 0), ()) = (sgnM k, ())) ∧
  ((decide ((((k % 48) / 4) % 2) = 1)) = false →
  ((M3.mk 0 0 1 (-1) 0 0 0 1 0), ()) = (sgnM k, ())))) ∧
 ((decide ((((k % 48) / 2) % 2) = 1)) = false →
 (((decide ((((k % 48) / 4) % 2) = 1)) = true →
  ((M3.mk 0 0 1 1 0 0 0 (-1) 0), ()) = (sgnM k, ())) ∧
 ((decide ((((k % 48) / 4) % 2) = 1)) = false →
 ((M3.mk 0 0 1 1 0 0 0 1 0), ()) = (sgnM k, ())))))))) ∧
(eqP (((k % 48) / 8)) 5 →
(((decide ((((k % 48) / 1) % 2) = 1)) = true →
 (((decide ((((k % 48) / 2) % 2) = 1)) = true →
  (((decide ((((k % 48) / 4) % 2) = 1)) = true →
   ((M3.mk 0 0 (-1) 0 (-1) 0 (-1) 0 0), ()) = (sgnM k, ())) ∧
  ((decide ((((k % 48) / 4) % 2) = 1)) = false →
  ((M3.mk 0 0 (-1) 0 (-1) 0 1 0 0), ()) = (sgnM k, ())))) ∧
 ((decide ((((k % 48) / 2) % 2) = 1)) = false →
 (((decide ((((k % 48) / 4) % 2) = 1)) = true →
  ((M3.mk 0 0 (-1) 0 1 0 (-1) 0 0), ()) = (sgnM k, ())) ∧
 ((decide ((((k % 48) / 4) % 2) = 1)) = false →
 ((M3.mk 0 0 (-1) 0 1 0 1 0 0), ()) = (sgnM k, ())))))) ∧
((decide ((((k % 48) / 1) % 2) = 1)) = false →
(((decide ((((k % 48) / 2) % 2) = 1)) = true →
 (((decide ((((k % 48) / 4) % 2) = 1)) = true →
  ((M3.mk 0 0 1 0 (-1) 0 (-1) 0 0), ()) = (sgnM k, ())) ∧
 ((decide ((((k % 48) / 4) % 2) = 1)) = false →
 ((M3.mk 0 0 1 0 (-1) 0 1 0 0), ()) = (sgnM k, ())))) ∧
((decide ((((k % 48) / 2) % 2) = 1)) = false →
(((decide ((((k % 48) / 4) % 2) = 1)) = true →
 ((M3.mk 0 0 1 0 1 0 (-1) 0 0), ()) = (sgnM k, ())) ∧
((decide ((((k % 48) / 4) % 2) = 1)) = false →
((M3.mk 0 0 1 0 1 0 1 0 0), ()) = (sgnM k, ())))))))))))))
theorem r_signs (x : HL C_signs.args) : runs (env0 [] [] []) 400 19 C_signs x = T_signs x.1 := by kernel_rfl
theorem p_signs (k : Int) (h0 : (Sh.int .u8).okA k) : T_signs k := by
  unfold T_signs sgnM
  refine ⟨fun h => ?_, fun h => ?_, fun h => ?_, fun h => ?_, fun h => ?_, fun h => ?_⟩ <;>
  (have h : (k % 48) / 8 = _ := h
   rw [h]
   refine ⟨fun a => ⟨fun b => ⟨fun c => ?_, fun c => ?_⟩, fun b => ⟨fun c => ?_, fun c => ?_⟩⟩, fun a => ⟨fun b => ⟨fun c => ?_, fun c => ?_⟩, fun b => ⟨fun c => ?_, fun c => ?_⟩⟩⟩ <;>
   (have a := sg_of a
    have b := sg_of b
    have c := sg_of c
    rw [a, b, c]; rfl))
theorem s_signs : Sound Tryz.prog 19 C_signs :=
  sound_of_eq (env0_ok (.nil)) (fun x => T_signs x.1) r_signs fun x ok hp => p_signs x.1 ok.1
noncomputable def C_sixfold : Contract := { args := [.int .u8], res := [.agg .mat], pre := fun _ => True, F := fun x => ((sixM x.1 : M3), ()) }
def T_sixfold (k : Int) : Prop :=
  (((decide (0 < (k % 6))) = true →
 (True ∧
 (((decide (1 < (k % 6))) = true →
  (True ∧
  (((decide (2 < (k % 6))) = true →
   (True ∧
   (((decide (3 < (k % 6))) = true →
    (True ∧
    (((decide (4 < (k % 6))) = true →
     (True ∧
     (((decide (((k / 6) % 2) = 1)) = true →
      (True ∧
      (((decide (((k / 12) % 2) = 1)) = true →
       (True ∧
       (wM (mulZ (wM (mulZ (wM (mulZ (wM (mulZ (wM (mulZ (wM (mulZ (wM (mulZ (M3.mk 1 0 0 0 1 0 0 0 1) ((M3.mk 1 (-1) 0 1 0 0 0 0 1)))) ((M3.mk 1 (-1) 0 1 0 0 0 0 1)))) ((M3.mk 1 (-1) 0 1 0 0 0 0 1)))) ((M3.mk 1 (-1) 0 1 0 0 0 0 1)))) ((M3.mk 1 (-1) 0 1 0 0 0 0 1)))) ((M3.mk 0 1 0 1 0 0 0 0 (-1))))) ((M3.mk (-1) 0 0 0 (-1) 0 0 0 (-1)))), ()) = (sixM k, ()))) ∧
      ((decide (((k / 12) % 2) = 1)) = false →
      (wM (mulZ (wM (mulZ (wM (mulZ (wM (mulZ (wM (mulZ (wM (mulZ (M3.mk 1 0 0 0 1 0 0 0 1) ((M3.mk 1 (-1) 0 1 0 0 0 0 1)))) ((M3.mk 1 (-1) 0 1 0 0 0 0 1)))) ((M3.mk 1 (-1) 0 1 0 0 0 0 1)))) ((M3.mk 1 (-1) 0 1 0 0 0 0 1)))) ((M3.mk 1 (-1) 0 1 0 0 0 0 1)))) ((M3.mk 0 1 0 1 0 0 0 0 (-1)))), ()) = (sixM k, ()))))) ∧
     ((decide (((k / 6) % 2) = 1)) = false →
     (((decide (((k / 12) % 2) = 1)) = true →
      (True ∧
      (wM (mulZ (wM (mulZ (wM (mulZ (wM (mulZ (wM (mulZ (wM (mulZ (M3.mk 1 0 0 0 1 0 0 0 1) ((M3.mk 1 (-1) 0 1 0 0 0 0 1)))) ((M3.mk 1 (-1) 0 1 0 0 0 0 1)))) ((M3.mk 1 (-1) 0 1 0 0 0 0 1)))) ((M3.mk 1 (-1) 0 1 0 0 0 0 1)))) ((M3.mk 1 (-1) 0 1 0 0 0 0 1)))) ((M3.mk (-1) 0 0 0 (-1) 0 0 0 (-1)))), ()) = (sixM k, ()))) ∧
     ((decide (((k / 12) % 2) = 1)) = false →
     (wM (mulZ (wM (mulZ (wM (mulZ (wM (mulZ (wM (mulZ (M3.mk 1 0 0 0 1 0 0 0 1) ((M3.mk 1 (-1) 0 1 0 0 0 0 1)))) ((M3.mk 1 (-1) 0 1 0 0 0 0 1)))) ((M3.mk 1 (-1) 0 1 0 0 0 0 1)))) ((M3.mk 1 (-1) 0 1 0 0 0 0 1)))) ((M3.mk 1 (-1) 0 1 0 0 0 0 1))), ()) = (sixM k, ()))))))) ∧
    ((decide (4 < (k % 6))) = false →
    (((decide (((k / 6) % 2) = 1)) = true →
     (True ∧
     (((decide (((k / 12) % 2) = 1)) = true →
      (True ∧
      (wM (mulZ (wM (mulZ (wM (mulZ (wM (mulZ (wM (mulZ (wM (mulZ (M3.mk 1 0 0 0 1 0 0 0 1) ((M3.mk 1 (-1) 0 1 0 0 0 0 1)))) ((M3.mk 1 (-1) 0 1 0 0 0 0 1)))) ((M3.mk 1 (-1) 0 1 0 0 0 0 1)))) ((M3.mk 1 (-1) 0 1 0 0 0 0 1)))) ((M3.mk 0 1 0 1 0 0 0 0 (-1))))) ((M3.mk (-1) 0 0 0 (-1) 0 0 0 (-1)))), ()) = (sixM k, ()))) ∧
     ((decide (((k / 12) % 2) = 1)) = false →
     (wM (mulZ (wM (mulZ (wM (mulZ (wM (mulZ (wM (mulZ (M3.mk 1 0 0 0 1 0 0 0 1) ((M3.mk 1 (-1) 0 1 0 0 0 0 1)))) ((M3.mk 1 (-1) 0 1 0 0 0 0 1)))) ((M3.mk 1 (-1) 0 1 0 0 0 0 1)))) ((M3.mk 1 (-1) 0 1 0 0 0 0 1)))) ((M3.mk 0 1 0 1 0 0 0 0 (-1)))), ()) = (sixM k, ()))))) ∧
    ((decide (((k / 6) % 2) = 1)) = false →
    (((decide (((k / 12) % 2) = 1)) = true →
     (True ∧
     (wM (mulZ (wM (mulZ (wM (mulZ (wM (mulZ (wM (mulZ (M3.mk 1 0 0 0 1 0 0 0 1) ((M3.mk 1 (-1) 0 1 0 0 0 0 1)))) ((M3.mk 1 (-1) 0 1 0 0 0 0 1)))) ((M3.mk 1 (-1) 0 1 0 0 0 0 1)))) ((M3.mk 1 (-1) 0 1 0 0 0 0 1)))) ((M3.mk (-1) 0 0 0 (-1) 0 0 0 (-1)))), ()) = (sixM k, ()))) ∧
    ((decide (((k / 12) % 2) = 1)) = false →
    (wM (mulZ (wM (mulZ (wM (mulZ (wM (mulZ (M3.mk 1 0 0 0 1 0 0 0 1) ((M3.mk 1 (-1) 0 1 0 0 0 0 1)))) ((M3.mk 1 (-1) 0 1 0 0 0 0 1)))) ((M3.mk 1 (-1) 0 1 0 0 0 0 1)))) ((M3.mk 1 (-1) 0 1 0 0 0 0 1))), ()) = (sixM k, ()))))))))) ∧
   ((decide (3 < (k % 6))) = false →
   (((decide (((k / 6) % 2) = 1)) = true →
    (True ∧
    (((decide (((k / 12) % 2) = 1)) = true →
     (True ∧
     (wM (mulZ (wM (mulZ (wM (mulZ (wM (mulZ (wM (mulZ (M3.mk 1 0 0 0 1 0 0 0 1) ((M3.mk 1 (-1) 0 1 0 0 0 0 1)))) ((M3.mk 1 (-1) 0 1 0 0 0 0 1)))) ((M3.mk 1 (-1) 0 1 0 0 0 0 1)))) ((M3.mk 0 1 0 1 0 0 0 0 (-1))))) ((M3.mk (-1) 0 0 0 (-1) 0 0 0 (-1)))), ()) = (sixM k, ()))) ∧
    ((decide (((k / 12) % 2) = 1)) = false →
    (wM (mulZ (wM (mulZ (wM (mulZ (wM (mulZ (M3.mk 1 0 0 0 1 0 0 0 1) ((M3.mk 1 (-1) 0 1 0 0 0 0 1)))) ((M3.mk 1 (-1) 0 1 0 0 0 0 1)))) ((M3.mk 1 (-1) 0 1 0 0 0 0 1)))) ((M3.mk 0 1 0 1 0 0 0 0 (-1)))), ()) = (sixM k, ()))))) ∧
   ((decide (((k / 6) % 2) = 1)) = false →
   (((decide (((k / 12) % 2) = 1)) = true →
    (True ∧
    (wM (mulZ (wM (mulZ (wM (mulZ (wM (mulZ (M3.mk 1 0 0 0 1 0 0 0 1) ((M3.mk 1 (-1) 0 1 0 0 0 0 1)))) ((M3.mk 1 (-1) 0 1 0 0 0 0 1)))) ((M3.mk 1 (-1) 0 1 0 0 0 0 1)))) ((M3.mk (-1) 0 0 0 (-1) 0 0 0 (-1)))), ()) = (sixM k, ()))) ∧
   ((decide (((k / 12) % 2) = 1)) = false →
   (wM (mulZ (wM (mulZ (wM (mulZ (M3.mk 1 0 0 0 1 0 0 0 1) ((M3.mk 1 (-1) 0 1 0 0 0 0 1)))) ((M3.mk 1 (-1) 0 1 0 0 0 0 1)))) ((M3.mk 1 (-1) 0 1 0 0 0 0 1))), ()) = (sixM k, ()))))))))) ∧
  ((decide (2 < (k % 6))) = false →
  (((decide (((k / 6) % 2) = 1)) = true →
   (True ∧
   (((decide (((k / 12) % 2) = 1)) = true →
    (True ∧
    (wM (mulZ (wM (mulZ (wM (mulZ (wM (mulZ (M3.mk 1 0 0 0 1 0 0 0 1) ((M3.mk 1 (-1) 0 1 0 0 0 0 1)))) ((M3.mk 1 (-1) 0 1 0 0 0 0 1)))) ((M3.mk 0 1 0 1 0 0 0 0 (-1))))) ((M3.mk (-1) 0 0 0 (-1) 0 0 0 (-1)))), ()) = (sixM k, ()))) ∧
   ((decide (((k / 12) % 2) = 1)) = false →
   (wM (mulZ (wM (mulZ (wM (mulZ (M3.mk 1 0 0 0 1 0 0 0 1) ((M3.mk 1 (-1) 0 1 0 0 0 0 1)))) ((M3.mk 1 (-1) 0 1 0 0 0 0 1)))) ((M3.mk 0 1 0 1 0 0 0 0 (-1)))), ()) = (sixM k, ()))))) ∧
  ((decide (((k / 6) % 2) = 1)) = false →
  (((decide (((k / 12) % 2) = 1)) = true →
   (True ∧
   (wM (mulZ (wM (mulZ (wM (mulZ (M3.mk 1 0 0 0 1 0 0 0 1) ((M3.mk 1 (-1) 0 1 0 0 0 0 1)))) ((M3.mk 1 (-1) 0 1 0 0 0 0 1)))) ((M3.mk (-1) 0 0 0 (-1) 0 0 0 (-1)))), ()) = (sixM k, ()))) ∧
  ((decide (((k / 12) % 2) = 1)) = false →
  (wM (mulZ (wM (mulZ (M3.mk 1 0 0 0 1 0 0 0 1) ((M3.mk 1 (-1) 0 1 0 0 0 0 1)))) ((M3.mk 1 (-1) 0 1 0 0 0 0 1))), ()) = (sixM k, ()))))))))) ∧
 ((decide (1 < (k % 6))) = false →
 (((decide (((k / 6) % 2) = 1)) = true →
  (True ∧
  (((decide (((k / 12) % 2) = 1)) = true →
   (True ∧
   (wM (mulZ (wM (mulZ (wM (mulZ (M3.mk 1 0 0 0 1 0 0 0 1) ((M3.mk 1 (-1) 0 1 0 0 0 0 1)))) ((M3.mk 0 1 0 1 0 0 0 0 (-1))))) ((M3.mk (-1) 0 0 0 (-1) 0 0 0 (-1)))), ()) = (sixM k, ()))) ∧
  ((decide (((k / 12) % 2) = 1)) = false →
  (wM (mulZ (wM (mulZ (M3.mk 1 0 0 0 1 0 0 0 1) ((M3.mk 1 (-1) 0 1 0 0 0 0 1)))) ((M3.mk 0 1 0 1 0 0 0 0 (-1)))), ()) = (sixM k, ()))))) ∧
 ((decide (((k / 6) % 2) = 1)) = false →
 (((decide (((k / 12) % 2) = 1)) = true →
  (True ∧
  (wM (mulZ (wM (mulZ (M3.mk 1 0 0 0 1 0 0 0 1) ((M3.mk 1 (-1) 0 1 0 0 0 0 1)))) ((M3.mk (-1) 0 0 0 (-1) 0 0 0 (-1)))), ()) = (sixM k, ()))) ∧
 ((decide (((k / 12) % 2) = 1)) = false →
 (wM (mulZ (M3.mk 1 0 0 0 1 0 0 0 1) ((M3.mk 1 (-1) 0 1 0 0 0 0 1))), ()) = (sixM k, ()))))))))) ∧
((decide (0 < (k % 6))) = false →
(((decide (((k / 6) % 2) = 1)) = true →
 (True ∧
 (((decide (((k / 12) % 2) = 1)) = true →
  (True ∧
  (wM (mulZ (wM (mulZ (M3.mk 1 0 0 0 1 0 0 0 1) ((M3.mk 0 1 0 1 0 0 0 0 (-1))))) ((M3.mk (-1) 0 0 0 (-1) 0 0 0 (-1)))), ()) = (sixM k, ()))) ∧
 ((decide (((k / 12) % 2) = 1)) = false →
 (wM (mulZ (M3.mk 1 0 0 0 1 0 0 0 1) ((M3.mk 0 1 0 1 0 0 0 0 (-1)))), ()) = (sixM k, ()))))) ∧
((decide (((k / 6) % 2) = 1)) = false →
(((decide (((k / 12) % 2) = 1)) = true →
 (True ∧
 (wM (mulZ (M3.mk 1 0 0 0 1 0 0 0 1) ((M3.mk (-1) 0 0 0 (-1) 0 0 0 (-1)))), ()) = (sixM k, ()))) ∧
((decide (((k / 12) % 2) = 1)) = false →
((M3.mk 1 0 0 0 1 0 0 0 1), ()) = (sixM k, ())))))))
theorem r_sixfold (x : HL C_sixfold.args) : runs (env0 [(37, C_ttimes)] [] []) 1500 38 C_sixfold x = T_sixfold x.1 := by kernel_rfl
theorem p_sixfold (k : Int) (h0 : (Sh.int .u8).okA k) : T_sixfold k := by
  have h6 : k % 6 = 0 ∨ k % 6 = 1 ∨ k % 6 = 2 ∨ k % 6 = 3 ∨ k % 6 = 4 ∨ k % 6 = 5 := by omega
  have hs : sixM k = (if (k / 12) % 2 = 1 then wM (mulZ (if (k / 6) % 2 = 1 then wM (mulZ (rotN (k % 6).toNat) (M3.mk 0 1 0 1 0 0 0 0 (-1))) else rotN (k % 6).toNat) (M3.mk (-1) 0 0 0 (-1) 0 0 0 (-1))) else (if (k / 6) % 2 = 1 then wM (mulZ (rotN (k % 6).toNat) (M3.mk 0 1 0 1 0 0 0 0 (-1))) else rotN (k % 6).toNat)) := rfl
  unfold T_sixfold
  rw [hs]
  rcases h6 with h | h | h | h | h | h <;> rw [h] <;> by_cases h1 : (k / 6) % 2 = 1 <;> by_cases h2 : (k / 12) % 2 = 1 <;> simp only [h1, h2, if_true, if_false] <;> simp <;> rfl
theorem s_sixfold : Sound Tryz.prog 38 C_sixfold :=
  sound_of_eq (env0_ok (.cons s_ttimes (.nil))) (fun x => T_sixfold x.1) r_sixfold fun x ok hp => p_sixfold x.1 ok.1
noncomputable def C_seeded : Contract := { args := [.agg .seed], res := [.agg .op], pre := fun _ => True, F := fun x => ((sedO x.1 : Op3), ()) }
def T_seeded (s : Sd) : Prop :=
  (True ∧
∀ z1 : M3,
(z1 = sgnM s.K →
(((s.Hex = true →
  (True ∧
  ∀ z4 : M3,
  (z4 = sixM s.K →
  sdM s z4))) ∧
 (s.Hex = false →
 sdM s z1)) ∧
∀ z3 : M3,
(sdM s z3 →
(((leP 0 (s.Step % 6) ∧
  leP (s.Step % 6) 5) ∧
 ((eqP (s.Step % 6) 0 →
  sdI s ((V3.mk (((s.t0 * 12) % 24)) 0 0)) 0) ∧
 ((eqP (s.Step % 6) 1 →
  sdI s ((V3.mk (((s.t0 * 12) % 24)) 0 0)) 0) ∧
 ((eqP (s.Step % 6) 2 →
  sdI s ((V3.mk (((s.t0 * 8) % 24)) 0 0)) 0) ∧
 ((eqP (s.Step % 6) 3 →
  sdI s ((V3.mk (((s.t0 * 6) % 24)) 0 0)) 0) ∧
 ((eqP (s.Step % 6) 4 →
  sdI s ((V3.mk (((s.t0 * 4) % 24)) 0 0)) 0) ∧
 (eqP (s.Step % 6) 5 →
 sdI s ((V3.mk (((s.t0 * 1) % 24)) 0 0)) 0))))))) ∧
∀ z5 : V3,
(sdI s z5 0 →
(((leP 0 (s.Step % 6) ∧
  leP (s.Step % 6) 5) ∧
 ((eqP (s.Step % 6) 0 →
  sdI s ((V3.mk z5.x (((s.t1 * 12) % 24)) z5.z)) 1) ∧
 ((eqP (s.Step % 6) 1 →
  sdI s ((V3.mk z5.x (((s.t1 * 12) % 24)) z5.z)) 1) ∧
 ((eqP (s.Step % 6) 2 →
  sdI s ((V3.mk z5.x (((s.t1 * 8) % 24)) z5.z)) 1) ∧
 ((eqP (s.Step % 6) 3 →
  sdI s ((V3.mk z5.x (((s.t1 * 6) % 24)) z5.z)) 1) ∧
 ((eqP (s.Step % 6) 4 →
  sdI s ((V3.mk z5.x (((s.t1 * 4) % 24)) z5.z)) 1) ∧
 (eqP (s.Step % 6) 5 →
 sdI s ((V3.mk z5.x (((s.t1 * 1) % 24)) z5.z)) 1))))))) ∧
∀ z7 : V3,
(sdI s z7 1 →
(((leP 0 (s.Step % 6) ∧
  leP (s.Step % 6) 5) ∧
 ((eqP (s.Step % 6) 0 →
  sdI s ((V3.mk z7.x z7.y (((s.t2 * 12) % 24)))) 2) ∧
 ((eqP (s.Step % 6) 1 →
  sdI s ((V3.mk z7.x z7.y (((s.t2 * 12) % 24)))) 2) ∧
 ((eqP (s.Step % 6) 2 →
  sdI s ((V3.mk z7.x z7.y (((s.t2 * 8) % 24)))) 2) ∧
 ((eqP (s.Step % 6) 3 →
  sdI s ((V3.mk z7.x z7.y (((s.t2 * 6) % 24)))) 2) ∧
 ((eqP (s.Step % 6) 4 →
  sdI s ((V3.mk z7.x z7.y (((s.t2 * 4) % 24)))) 2) ∧
 (eqP (s.Step % 6) 5 →
 sdI s ((V3.mk z7.x z7.y (((s.t2 * 1) % 24)))) 2))))))) ∧
∀ z9 : V3,
(sdI s z9 2 →
((Op3.mk z3 z9), ()) = (sedO s, ())))))))))))
theorem r_seeded (x : HL C_seeded.args) : runs (env0 [(19, C_signs.hid), (38, C_sixfold.hid)] [] [(20, 4, { fix := [(.cell 1, .agg .seed)], vars := [(.cell 3, .agg .mat)], inv := fun y v => sdM y.1 v.1, mu := fun y v => 0 }), (20, 8, { fix := [(.cell 1, .agg .seed), (.tmp 6, .int .i64)], vars := [(.cell 5, .agg .vec)], inv := fun y v => sdI y.1 v.1 y.2.1, mu := fun y v => 0 })]) 400 20 C_seeded x = T_seeded x.1 := by kernel_rfl
theorem p_seeded (s : Sd) (h0 : (Sh.agg .seed).okA s) : T_seeded s := by
  unfold T_seeded
  have hst : 0 ≤ s.Step % 6 ∧ s.Step % 6 ≤ 5 := by omega
  have step : ∀ (n c : Int), s.Step % 6 = n → stpI n = c → 0 ≤ n → n < 6 → stpI s.Step = c := fun n c h1 h2 h3 h4 => by
    unfold stpI at *
    rw [show n % 6 = n by omega] at h2
    rw [h1]; exact h2
  refine ⟨trivial, fun m hm => ⟨⟨fun h => ⟨trivial, fun m2 hm2 => by unfold sdM; rw [if_pos h, hm2]⟩, fun h => by unfold sdM; rw [if_neg (by rw [h]; decide), hm]⟩, fun m hM => ⟨⟨⟨hst.1, hst.2⟩, ?_⟩, fun t hT => ⟨⟨⟨hst.1, hst.2⟩, ?_⟩, fun t hT => ⟨⟨⟨hst.1, hst.2⟩, ?_⟩, fun t hT => by rw [sed_end hM hT]⟩⟩⟩⟩⟩ <;>
  (refine ⟨fun h => ?_, fun h => ?_, fun h => ?_, fun h => ?_, fun h => ?_, fun h => ?_⟩ <;>
   (have h := step _ _ h rfl (by decide) (by decide)
    unfold sdI
    rw [h]
    first | exact ⟨fun _ => rfl, fun h => absurd h (by decide), fun h => absurd h (by decide)⟩ | exact ⟨fun h1 => by rw [← h]; exact hT.1 (by decide), fun _ => rfl, fun h => absurd h (by decide)⟩ | exact ⟨fun h1 => by rw [← h]; exact hT.1 (by decide), fun h1 => by rw [← h]; exact hT.2.1 (by decide), fun _ => rfl⟩))
theorem s_seeded : Sound Tryz.prog 20 C_seeded :=
  sound_of_eq (env0_ok (.cons s_signs.hid (.cons s_sixfold.hid (.nil)))) (fun x => T_seeded x.1) r_seeded fun x ok hp => p_seeded x.1 ok.1
noncomputable def C_seeds : Contract := { args := [.list .seed], res := [.list .op], pre := fun _ => True, F := fun x => ((sedL x.1 : List Op3), ()) }
def T_seeds (l : List Sd) : Prop :=
  (((decide (0 < (l.length : Int))) = true →
 (inB l 0 ∧
 (inB l 0 ∧
 (True ∧
 ∀ z2 : Op3,
 (z2 = sedO ((l.getD 0 (Sd.mk false 0 0 0 0 0))) →
 (lfit 96 (lapp [] [z2]) ∧
 (((decide (1 < (l.length : Int))) = true →
  (inB l 1 ∧
  (inB l 0 ∧
  (True ∧
  ∀ z5 : Op3,
  (z5 = sedO ((Sd.mk (((l.getD 0 (Sd.mk false 0 0 0 0 0))).Hex) (((l.getD 1 (Sd.mk false 0 0 0 0 0))).K) (((l.getD 1 (Sd.mk false 0 0 0 0 0))).t0) (((l.getD 1 (Sd.mk false 0 0 0 0 0))).t1) (((l.getD 1 (Sd.mk false 0 0 0 0 0))).t2) (((l.getD 1 (Sd.mk false 0 0 0 0 0))).Step))) →
  (lfit 96 (lapp (lapp [] [z2]) [z5]) ∧
  (((decide (2 < (l.length : Int))) = true →
   (inB l 2 ∧
   (inB l 0 ∧
   (True ∧
   ∀ z8 : Op3,
   (z8 = sedO ((Sd.mk (((l.getD 0 (Sd.mk false 0 0 0 0 0))).Hex) (((l.getD 2 (Sd.mk false 0 0 0 0 0))).K) (((l.getD 2 (Sd.mk false 0 0 0 0 0))).t0) (((l.getD 2 (Sd.mk false 0 0 0 0 0))).t1) (((l.getD 2 (Sd.mk false 0 0 0 0 0))).t2) (((l.getD 2 (Sd.mk false 0 0 0 0 0))).Step))) →
   (lfit 96 (lapp (lapp (lapp [] [z2]) [z5]) [z8]) ∧
   (((decide (3 < (l.length : Int))) = true →
    (lapp (lapp (lapp [] [z2]) [z5]) [z8], ()) = (sedL l, ())) ∧
   ((decide (3 < (l.length : Int))) = false →
   (lapp (lapp (lapp [] [z2]) [z5]) [z8], ()) = (sedL l, ()))))))))) ∧
  ((decide (2 < (l.length : Int))) = false →
  (lapp (lapp [] [z2]) [z5], ()) = (sedL l, ()))))))))) ∧
 ((decide (1 < (l.length : Int))) = false →
 (lapp [] [z2], ()) = (sedL l, ()))))))))) ∧
((decide (0 < (l.length : Int))) = false →
([], ()) = (sedL l, ())))
theorem r_seeds (x : HL C_seeds.args) : runs (env0 [(20, C_seeded.hid)] [] []) 400 24 C_seeds x = T_seeds x.1 := by kernel_rfl
theorem p_seeds (l : List Sd) (h0 : (Sh.list .seed).okA l) : T_seeds l := by
  unfold T_seeds sedL
  match l with
  | [] => simp
  | [a] => simp [inB, lfit, lapp]
  | [a, b] => simp [inB, lfit, lapp]
  | a :: b :: c :: r => simp [inB, lfit, lapp]; omega
theorem s_seeds : Sound Tryz.prog 24 C_seeds :=
  sound_of_eq (env0_ok (.cons s_seeded.hid (.nil))) (fun x => T_seeds x.1) r_seeds fun x ok hp => p_seeds x.1 ok.1
noncomputable def C_tawake : Contract := { args := [], res := [.bool], pre := fun _ => True, F := fun x => ((true : Bool), ()) }
def T_tawake  : Prop :=
  (True ∧
∀ z0 : List Op3,
(z0 = cloL ([(Op3.mk ((M3.mk (-1) 0 0 0 (-1) 0 0 0 (-1))) (V3.mk 0 0 0))]) →
∀ z2 : Int,
(z2 = cloE ([(Op3.mk ((M3.mk (-1) 0 0 0 (-1) 0 0 0 (-1))) (V3.mk 0 0 0))]) →
(((decide (z2 = 0)) = true →
 ((decide ((z0.length : Int) = 2)), ()) = (true, ())) ∧
((decide (z2 = 0)) = false →
(false, ()) = (true, ()))))))
theorem r_tawake (x : HL C_tawake.args) : runs (env0 [(23, C_gClose.hid)] [] []) 400 4 C_tawake x = T_tawake  := by kernel_rfl
theorem p_tawake   : T_tawake  := by
  unfold T_tawake
  repeat' (first
    | exact trivial
    | rfl
    | (refine And.intro ?_ ?_)
    | (intro z; intro hz; subst hz)
    | (intro h; first | exact absurd h (by decide +kernel) | skip)
    | decide +kernel)
theorem s_tawake : Sound Tryz.prog 4 C_tawake :=
  sound_of_eq (env0_ok (.cons s_gClose.hid (.nil))) (fun x => T_tawake ) r_tawake fun x ok hp => p_tawake  
end Go.Fx
