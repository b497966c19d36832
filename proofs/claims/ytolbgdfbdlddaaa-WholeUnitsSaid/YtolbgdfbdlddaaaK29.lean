/-
  Contracts: ttimes, signs, sixfold, seeded, seeds, tawake, tsides, tfits, tspot.
-/
import Derived.Test.YtolbgdfbdlddaaaK28
import Derived.Test.YtolbgdfbdlddaaaTa
import Derived.Test.YtolbgdfbdlddaaaUn
namespace Go.Fx
open Go Go.Proofs
set_option maxRecDepth 100000
set_option linter.unusedVariables false
set_option linter.unusedSimpArgs false
set_option linter.unusedSectionVars false
noncomputable def C_ttimes : Contract := { args := [.agg .mat, .agg .mat], res := [.agg .mat], pre := fun _ => True, F := fun x => ((wM (mulZ x.1 x.2.1) : M3), ()) }
def T_ttimes (a : M3) (b : M3) : Prop :=
  ((M3.mk ((w64 (((w64 (((w64 (a.xx * b.xx)) + (w64 (a.xy * b.yx))))) + (w64 (a.xz * b.zx)))))) ((w64 (((w64 (((w64 (a.xx * b.xy)) + (w64 (a.xy * b.yy))))) + (w64 (a.xz * b.zy)))))) ((w64 (((w64 (((w64 (a.xx * b.xz)) + (w64 (a.xy * b.yz))))) + (w64 (a.xz * b.zz)))))) ((w64 (((w64 (((w64 (a.yx * b.xx)) + (w64 (a.yy * b.yx))))) + (w64 (a.yz * b.zx)))))) ((w64 (((w64 (((w64 (a.yx * b.xy)) + (w64 (a.yy * b.yy))))) + (w64 (a.yz * b.zy)))))) ((w64 (((w64 (((w64 (a.yx * b.xz)) + (w64 (a.yy * b.yz))))) + (w64 (a.yz * b.zz)))))) ((w64 (((w64 (((w64 (a.zx * b.xx)) + (w64 (a.zy * b.yx))))) + (w64 (a.zz * b.zx)))))) ((w64 (((w64 (((w64 (a.zx * b.xy)) + (w64 (a.zy * b.yy))))) + (w64 (a.zz * b.zy)))))) ((w64 (((w64 (((w64 (a.zx * b.xz)) + (w64 (a.zy * b.yz))))) + (w64 (a.zz * b.zz))))))), ()) = (wM (mulZ a b), ())
theorem r_ttimes (x : HL C_ttimes.args) : runs (env0 [] [] []) 400 152 C_ttimes x = T_ttimes x.1 x.2.1 := by kernel_rfl
theorem p_ttimes (a : M3) (b : M3) (h0 : (Sh.agg .mat).okA a) (h1 : (Sh.agg .mat).okA b) : T_ttimes a b := by
  simp only [T_ttimes, wM, mulZ, Int.zero_add, w64_add_l, w64_add_r, w64_sub_l, w64_sub_r, w64_mul_l, w64_mul_r, w64_w64]
theorem s_ttimes : Sound Try.prog 152 C_ttimes :=
  sound_of_eq (env0_ok (.nil)) (fun x => T_ttimes x.1 x.2.1) r_ttimes fun x ok hp => p_ttimes x.1 x.2.1 ok.1 ok.2.1
noncomputable def C_signs : Contract := { args := [.int .u8], res := [.agg .mat], pre := fun _ => True, F := fun x => ((sgnM x.1 : M3), ()) }
def T_signs (k : Int) : Prop :=
  ((eqP (((k % 48) / 8)) 0 →
 (((decide ((((k % 48) / 1) % 2) = 1)) = true →
  (((decide ((((k % 48) / 2) % 2) = 1)) = true →
   (((decide ((((k % 48) / 4) % 2) = 1)) = true →
    ((M3.mk (-1) 0 0 0 (-1) 0 0 0 (-1)), ()) = (sgnM k, ())) ∧
   ((decide ((((k % 48) / 4) % 2) = 1)) = false →
   ((M3.mk (-1) 0 0 0 (-1) 0 0 0 1), ()) = (sgnM k, ())))) ∧
  ((decide ((((k % 48) / 2) % 2) = 1)) = false →
  (((decide ((((k % 48) / 4) % 2) = 1)) = true →
   ((M3.mk (-1) 0 0 0 1 0 0 0 (-1)), ()) = (sgnM k, ())) ∧
  ((decide ((((k % 48) / 4) % 2) = 1)) = false →
  ((M3.mk (-1) 0 0 0 1 0 0 0 1), ()) = (sgnM k, ())))))) ∧
 ((decide ((((k % 48) / 1) % 2) = 1)) = false →
 (((decide ((((k % 48) / 2) % 2) = 1)) = true →
  (((decide ((((k % 48) / 4) % 2) = 1)) = true →
   ((M3.mk 1 0 0 0 (-1) 0 0 0 (-1)), ()) = (sgnM k, ())) ∧
  ((decide ((((k % 48) / 4) % 2) = 1)) = false →
  ((M3.mk 1 0 0 0 (-1) 0 0 0 1), ()) = (sgnM k, ())))) ∧
 ((decide ((((k % 48) / 2) % 2) = 1)) = false →
 (((decide ((((k % 48) / 4) % 2) = 1)) = true →
  ((M3.mk 1 0 0 0 1 0 0 0 (-1)), ()) = (sgnM k, ())) ∧
 ((decide ((((k % 48) / 4) % 2) = 1)) = false →
 ((M3.mk 1 0 0 0 1 0 0 0 1), ()) = (sgnM k, ())))))))) ∧
((eqP (((k % 48) / 8)) 1 →
 (((decide ((((k % 48) / 1) % 2) = 1)) = true →
  (((decide ((((k % 48) / 2) % 2) = 1)) = true →
   (((decide ((((k % 48) / 4) % 2) = 1)) = true →
    ((M3.mk (-1) 0 0 0 0 (-1) 0 (-1) 0), ()) = (sgnM k, ())) ∧
   ((decide ((((k % 48) / 4) % 2) = 1)) = false →
   ((M3.mk (-1) 0 0 0 0 (-1) 0 1 0), ()) = (sgnM k, ())))) ∧
  ((decide ((((k % 48) / 2) % 2) = 1)) = false →
  (((decide ((((k % 48) / 4) % 2) = 1)) = true →
   ((M3.mk (-1) 0 0 0 0 1 0 (-1) 0), ()) = (sgnM k, ())) ∧
  ((decide ((((k % 48) / 4) % 2) = 1)) = false →
  ((M3.mk (-1) 0 0 0 0 1 0 1 0), ()) = (sgnM k, ())))))) ∧
 ((decide ((((k % 48) / 1) % 2) = 1)) = false →
 (((decide ((((k % 48) / 2) % 2) = 1)) = true →
  (((decide ((((k % 48) / 4) % 2) = 1)) = true →
   ((M3.mk 1 0 0 0 0 (-1) 0 (-1) 0), ()) = (sgnM k, ())) ∧
  ((decide ((((k % 48) / 4) % 2) = 1)) = false →
  ((M3.mk 1 0 0 0 0 (-1) 0 1 0), ()) = (sgnM k, ())))) ∧
 ((decide ((((k % 48) / 2) % 2) = 1)) = false →
 (((decide ((((k % 48) / 4) % 2) = 1)) = true →
  ((M3.mk 1 0 0 0 0 1 0 (-1) 0), ()) = (sgnM k, ())) ∧
 ((decide ((((k % 48) / 4) % 2) = 1)) = false →
 ((M3.mk 1 0 0 0 0 1 0 1 0), ()) = (sgnM k, ())))))))) ∧
((eqP (((k % 48) / 8)) 2 →
 (((decide ((((k % 48) / 1) % 2) = 1)) = true →
  (((decide ((((k % 48) / 2) % 2) = 1)) = true →
   (((decide ((((k % 48) / 4) % 2) = 1)) = true →
    ((M3.mk 0 (-1) 0 (-1) 0 0 0 0 (-1)), ()) = (sgnM k, ())) ∧
   ((decide ((((k % 48) / 4) % 2) = 1)) = false →
   ((M3.mk 0 (-1) 0 (-1) 0 0 0 0 1), ()) = (sgnM k, ())))) ∧
  ((decide ((((k % 48) / 2) % 2) = 1)) = false →
  (((decide ((((k % 48) / 4) % 2) = 1)) = true →
   ((M3.mk 0 (-1) 0 1 0 0 0 0 (-1)), ()) = (sgnM k, ())) ∧
  ((decide ((((k % 48) / 4) % 2) = 1)) = false →
  ((M3.mk 0 (-1) 0 1 0 0 0 0 1), ()) = (sgnM k, ())))))) ∧
 ((decide ((((k % 48) / 1) % 2) = 1)) = false →
 (((decide ((((k % 48) / 2) % 2) = 1)) = true →
  (((decide ((((k % 48) / 4) % 2) = 1)) = true →
   ((M3.mk 0 1 0 (-1) 0 0 0 0 (-1)), ()) = (sgnM k, ())) ∧
  ((decide ((((k % 48) / 4) % 2) = 1)) = false →
  ((M3.mk 0 1 0 (-1) 0 0 0 0 1), ()) = (sgnM k, ())))) ∧
 ((decide ((((k % 48) / 2) % 2) = 1)) = false →
 (((decide ((((k % 48) / 4) % 2) = 1)) = true →
  ((M3.mk 0 1 0 1 0 0 0 0 (-1)), ()) = (sgnM k, ())) ∧
 ((decide ((((k % 48) / 4) % 2) = 1)) = false →
 ((M3.mk 0 1 0 1 0 0 0 0 1), ()) = (sgnM k, ())))))))) ∧
((eqP (((k % 48) / 8)) 3 →
 (((decide ((((k % 48) / 1) % 2) = 1)) = true →
  (((decide ((((k % 48) / 2) % 2) = 1)) = true →
   (((decide ((((k % 48) / 4) % 2) = 1)) = true →
    ((M3.mk 0 (-1) 0 0 0 (-1) (-1) 0 0), ()) = (sgnM k, ())) ∧
   ((decide ((((k % 48) / 4) % 2) = 1)) = false →
   ((M3.mk 0 (-1) 0 0 0 (-1) 1 0 0), ()) = (sgnM k, ())))) ∧
  ((decide ((((k % 48) / 2) % 2) = 1)) = false →
  (((decide ((((k % 48) / 4) % 2) = 1)) = true →
   ((M3.mk 0 (-1) 0 0 0 1 (-1) 0 0), ()) = (sgnM k, ())) ∧
  ((decide ((((k % 48) / 4) % 2) = 1)) = false →
  ((M3.mk 0 (-1) 0 0 0 1 1 0 0), ()) = (sgnM k, ())))))) ∧
 ((decide ((((k % 48) / 1) % 2) = 1)) = false →
 (((decide ((((k % 48) / 2) % 2) = 1)) = true →
  (((decide ((((k % 48) / 4) % 2) = 1)) = true →
   ((M3.mk 0 1 0 0 0 (-1) (-1) 0 0), ()) = (sgnM k, ())) ∧
  ((decide ((((k % 48) / 4) % 2) = 1)) = false →
  ((M3.mk 0 1 0 0 0 (-1) 1 0 0), ()) = (sgnM k, ())))) ∧
 ((decide ((((k % 48) / 2) % 2) = 1)) = false →
 (((decide ((((k % 48) / 4) % 2) = 1)) = true →
  ((M3.mk 0 1 0 0 0 1 (-1) 0 0), ()) = (sgnM k, ())) ∧
 ((decide ((((k % 48) / 4) % 2) = 1)) = false →
 ((M3.mk 0 1 0 0 0 1 1 0 0), ()) = (sgnM k, ())))))))) ∧
((eqP (((k % 48) / 8)) 4 →
 (((decide ((((k % 48) / 1) % 2) = 1)) = true →
  (((decide ((((k % 48) / 2) % 2) = 1)) = true →
   (((decide ((((k % 48) / 4) % 2) = 1)) = true →
    ((M3.mk 0 0 (-1) (-1) 0 0 0 (-1) 0), ()) = (sgnM k, ())) ∧
   ((decide ((((k % 48) / 4) % 2) = 1)) = false →
   ((M3.mk 0 0 (-1) (-1) 0 0 0 1 0), ()) = (sgnM k, ())))) ∧
  ((decide ((((k % 48) / 2) % 2) = 1)) = false →
  (((decide ((((k % 48) / 4) % 2) = 1)) = true →
   ((M3.mk 0 0 (-1) 1 0 0 0 (-1) 0), ()) = (sgnM k, ())) ∧
  ((decide ((((k % 48) / 4) % 2) = 1)) = false →
  ((M3.mk 0 0 (-1) 1 0 0 0 1 0), ()) = (sgnM k, ())))))) ∧
 ((decide ((((k % 48) / 1) % 2) = 1)) = false →
 (((decide ((((k % 48) / 2) % 2) = 1)) = true →
  (((decide ((((k % 48) / 4) % 2) = 1)) = true →
   ((M3.mk 0 0 1 (-1) 0 0 0 (-1) 0), ()) = (sgnM k, ())) ∧
  ((decide ((((k % 48) / 4) % 2) = 1)) = false →
  ((M3.mk 0 0 1 (-1) 0 0 0 1 0), ()) = (sgnM k, ())))) ∧
 ((decide ((((k % 48) / 2) % 2) = 1)) = false →
 (((decide ((((k % 48) / 4) % 2) = 1)) = true →
  ((M3.mk 0 0 1 1 0 0 0 (-1) 0), ()) = (sgnM k, ())) ∧
 ((decide ((((k % 48) / 4) % 2) = 1)) = false →
 ((M3.mk 0 0 1 1 0 0 0 1 0), ()) = (sgnM k, ())))))))) ∧
(eqP (((k % 48) / 8)) 5 →
(((decide ((((k % 48) / 1) % 2) = 1)) = true →
 (((decide ((((k % 48) / 2) % 2) = 1)) = true →
  (((decide ((((k % 48) / 4) % 2) = 1)) = true →
   ((M3.mk 0 0 (-1) 0 (-1) 0 (-1) 0 0), ()) = (sgnM k, ())) ∧
  ((decide ((((k % 48) / 4) % 2) = 1)) = false →
  ((M3.mk 0 0 (-1) 0 (-1) 0 1 0 0), ()) = (sgnM k, ())))) ∧
 ((decide ((((k % 48) / 2) % 2) = 1)) = false →
 (((decide ((((k % 48) / 4) % 2) = 1)) = true →
  ((M3.mk 0 0 (-1) 0 1 0 (-1) 0 0), ()) = (sgnM k, ())) ∧
 ((decide ((((k % 48) / 4) % 2) = 1)) = false →
 ((M3.mk 0 0 (-1) 0 1 0 1 0 0), ()) = (sgnM k, ())))))) ∧
((decide ((((k % 48) / 1) % 2) = 1)) = false →
(((decide ((((k % 48) / 2) % 2) = 1)) = true →
 (((decide ((((k % 48) / 4) % 2) = 1)) = true →
  ((M3.mk 0 0 1 0 (-1) 0 (-1) 0 0), ()) = (sgnM k, ())) ∧
 ((decide ((((k % 48) / 4) % 2) = 1)) = false →
 ((M3.mk 0 0 1 0 (-1) 0 1 0 0), ()) = (sgnM k, ())))) ∧
((decide ((((k % 48) / 2) % 2) = 1)) = false →
(((decide ((((k % 48) / 4) % 2) = 1)) = true →
 ((M3.mk 0 0 1 0 1 0 (-1) 0 0), ()) = (sgnM k, ())) ∧
((decide ((((k % 48) / 4) % 2) = 1)) = false →
((M3.mk 0 0 1 0 1 0 1 0 0), ()) = (sgnM k, ())))))))))))))
theorem r_signs (x : HL C_signs.args) : runs (env0 [] [] []) 400 142 C_signs x = T_signs x.1 := by kernel_rfl
theorem p_signs (k : Int) (h0 : (Sh.int .u8).okA k) : T_signs k := by
  unfold T_signs sgnM
  refine ⟨fun h => ?_, fun h => ?_, fun h => ?_, fun h => ?_, fun h => ?_, fun h => ?_⟩ <;>
  (have h : (k % 48) / 8 = _ := h
   rw [h]
   refine ⟨fun a => ⟨fun b => ⟨fun c => ?_, fun c => ?_⟩, fun b => ⟨fun c => ?_, fun c => ?_⟩⟩, fun a => ⟨fun b => ⟨fun c => ?_, fun c => ?_⟩, fun b => ⟨fun c => ?_, fun c => ?_⟩⟩⟩ <;>
   (have a := sg_of a
    have b := sg_of b
    have c := sg_of c
    rw [a, b, c]; rfl))
theorem s_signs : Sound Try.prog 142 C_signs :=
  sound_of_eq (env0_ok (.nil)) (fun x => T_signs x.1) r_signs fun x ok hp => p_signs x.1 ok.1
noncomputable def C_sixfold : Contract := { args := [.int .u8], res := [.agg .mat], pre := fun _ => True, F := fun x => ((sixM x.1 : M3), ()) }
def T_sixfold (k : Int) : Prop :=
  (((decide (0 < (k % 6))) = true →
 (True ∧
 (((decide (1 < (k % 6))) = true →
  (True ∧
  (((decide (2 < (k % 6))) = true →
   (True ∧
   (((decide (3 < (k % 6))) = true →
    (True ∧
    (((decide (4 < (k % 6))) = true →
     (True ∧
     (((decide (((k / 6) % 2) = 1)) = true →
      (True ∧
      (((decide (((k / 12) % 2) = 1)) = true →
       (True ∧
       (wM (mulZ (wM (mulZ (wM (mulZ (wM (mulZ (wM (mulZ (wM (mulZ (wM (mulZ (M3.mk 1 0 0 0 1 0 0 0 1) ((M3.mk 1 (-1) 0 1 0 0 0 0 1)))) ((M3.mk 1 (-1) 0 1 0 0 0 0 1)))) ((M3.mk 1 (-1) 0 1 0 0 0 0 1)))) ((M3.mk 1 (-1) 0 1 0 0 0 0 1)))) ((M3.mk 1 (-1) 0 1 0 0 0 0 1)))) ((M3.mk 0 1 0 1 0 0 0 0 (-1))))) ((M3.mk (-1) 0 0 0 (-1) 0 0 0 (-1)))), ()) = (sixM k, ()))) ∧
      ((decide (((k / 12) % 2) = 1)) = false →
      (wM (mulZ (wM (mulZ (wM (mulZ (wM (mulZ (wM (mulZ (wM (mulZ (M3.mk 1 0 0 0 1 0 0 0 1) ((M3.mk 1 (-1) 0 1 0 0 0 0 1)))) ((M3.mk 1 (-1) 0 1 0 0 0 0 1)))) ((M3.mk 1 (-1) 0 1 0 0 0 0 1)))) ((M3.mk 1 (-1) 0 1 0 0 0 0 1)))) ((M3.mk 1 (-1) 0 1 0 0 0 0 1)))) ((M3.mk 0 1 0 1 0 0 0 0 (-1)))), ()) = (sixM k, ()))))) ∧
     ((decide (((k / 6) % 2) = 1)) = false →
     (((decide (((k / 12) % 2) = 1)) = true →
      (True ∧
      (wM (mulZ (wM (mulZ (wM (mulZ (wM (mulZ (wM (mulZ (wM (mulZ (M3.mk 1 0 0 0 1 0 0 0 1) ((M3.mk 1 (-1) 0 1 0 0 0 0 1)))) ((M3.mk 1 (-1) 0 1 0 0 0 0 1)))) ((M3.mk 1 (-1) 0 1 0 0 0 0 1)))) ((M3.mk 1 (-1) 0 1 0 0 0 0 1)))) ((M3.mk 1 (-1) 0 1 0 0 0 0 1)))) ((M3.mk (-1) 0 0 0 (-1) 0 0 0 (-1)))), ()) = (sixM k, ()))) ∧
     ((decide (((k / 12) % 2) = 1)) = false →
     (wM (mulZ (wM (mulZ (wM (mulZ (wM (mulZ (wM (mulZ (M3.mk 1 0 0 0 1 0 0 0 1) ((M3.mk 1 (-1) 0 1 0 0 0 0 1)))) ((M3.mk 1 (-1) 0 1 0 0 0 0 1)))) ((M3.mk 1 (-1) 0 1 0 0 0 0 1)))) ((M3.mk 1 (-1) 0 1 0 0 0 0 1)))) ((M3.mk 1 (-1) 0 1 0 0 0 0 1))), ()) = (sixM k, ()))))))) ∧
    ((decide (4 < (k % 6))) = false →
    (((decide (((k / 6) % 2) = 1)) = true →
     (True ∧
     (((decide (((k / 12) % 2) = 1)) = true →
      (True ∧
      (wM (mulZ (wM (mulZ (wM (mulZ (wM (mulZ (wM (mulZ (wM (mulZ (M3.mk 1 0 0 0 1 0 0 0 1) ((M3.mk 1 (-1) 0 1 0 0 0 0 1)))) ((M3.mk 1 (-1) 0 1 0 0 0 0 1)))) ((M3.mk 1 (-1) 0 1 0 0 0 0 1)))) ((M3.mk 1 (-1) 0 1 0 0 0 0 1)))) ((M3.mk 0 1 0 1 0 0 0 0 (-1))))) ((M3.mk (-1) 0 0 0 (-1) 0 0 0 (-1)))), ()) = (sixM k, ()))) ∧
     ((decide (((k / 12) % 2) = 1)) = false →
     (wM (mulZ (wM (mulZ (wM (mulZ (wM (mulZ (wM (mulZ (M3.mk 1 0 0 0 1 0 0 0 1) ((M3.mk 1 (-1) 0 1 0 0 0 0 1)))) ((M3.mk 1 (-1) 0 1 0 0 0 0 1)))) ((M3.mk 1 (-1) 0 1 0 0 0 0 1)))) ((M3.mk 1 (-1) 0 1 0 0 0 0 1)))) ((M3.mk 0 1 0 1 0 0 0 0 (-1)))), ()) = (sixM k, ()))))) ∧
    ((decide (((k / 6) % 2) = 1)) = false →
    (((decide (((k / 12) % 2) = 1)) = true →
     (True ∧
     (wM (mulZ (wM (mulZ (wM (mulZ (wM (mulZ (wM (mulZ (M3.mk 1 0 0 0 1 0 0 0 1) ((M3.mk 1 (-1) 0 1 0 0 0 0 1)))) ((M3.mk 1 (-1) 0 1 0 0 0 0 1)))) ((M3.mk 1 (-1) 0 1 0 0 0 0 1)))) ((M3.mk 1 (-1) 0 1 0 0 0 0 1)))) ((M3.mk (-1) 0 0 0 (-1) 0 0 0 (-1)))), ()) = (sixM k, ()))) ∧
    ((decide (((k / 12) % 2) = 1)) = false →
    (wM (mulZ (wM (mulZ (wM (mulZ (wM (mulZ (M3.mk 1 0 0 0 1 0 0 0 1) ((M3.mk 1 (-1) 0 1 0 0 0 0 1)))) ((M3.mk 1 (-1) 0 1 0 0 0 0 1)))) ((M3.mk 1 (-1) 0 1 0 0 0 0 1)))) ((M3.mk 1 (-1) 0 1 0 0 0 0 1))), ()) = (sixM k, ()))))))))) ∧
   ((decide (3 < (k % 6))) = false →
   (((decide (((k / 6) % 2) = 1)) = true →
    (True ∧
    (((decide (((k / 12) % 2) = 1)) = true →
     (True ∧
     (wM (mulZ (wM (mulZ (wM (mulZ (wM (mulZ (wM (mulZ (M3.mk 1 0 0 0 1 0 0 0 1) ((M3.mk 1 (-1) 0 1 0 0 0 0 1)))) ((M3.mk 1 (-1) 0 1 0 0 0 0 1)))) ((M3.mk 1 (-1) 0 1 0 0 0 0 1)))) ((M3.mk 0 1 0 1 0 0 0 0 (-1))))) ((M3.mk (-1) 0 0 0 (-1) 0 0 0 (-1)))), ()) = (sixM k, ()))) ∧
    ((decide (((k / 12) % 2) = 1)) = false →
    (wM (mulZ (wM (mulZ (wM (mulZ (wM (mulZ (M3.mk 1 0 0 0 1 0 0 0 1) ((M3.mk 1 (-1) 0 1 0 0 0 0 1)))) ((M3.mk 1 (-1) 0 1 0 0 0 0 1)))) ((M3.mk 1 (-1) 0 1 0 0 0 0 1)))) ((M3.mk 0 1 0 1 0 0 0 0 (-1)))), ()) = (sixM k, ()))))) ∧
   ((decide (((k / 6) % 2) = 1)) = false →
   (((decide (((k / 12) % 2) = 1)) = true →
    (True ∧
    (wM (mulZ (wM (mulZ (wM (mulZ (wM (mulZ (M3.mk 1 0 0 0 1 0 0 0 1) ((M3.mk 1 (-1) 0 1 0 0 0 0 1)))) ((M3.mk 1 (-1) 0 1 0 0 0 0 1)))) ((M3.mk 1 (-1) 0 1 0 0 0 0 1)))) ((M3.mk (-1) 0 0 0 (-1) 0 0 0 (-1)))), ()) = (sixM k, ()))) ∧
   ((decide (((k / 12) % 2) = 1)) = false →
   (wM (mulZ (wM (mulZ (wM (mulZ (M3.mk 1 0 0 0 1 0 0 0 1) ((M3.mk 1 (-1) 0 1 0 0 0 0 1)))) ((M3.mk 1 (-1) 0 1 0 0 0 0 1)))) ((M3.mk 1 (-1) 0 1 0 0 0 0 1))), ()) = (sixM k, ()))))))))) ∧
  ((decide (2 < (k % 6))) = false →
  (((decide (((k / 6) % 2) = 1)) = true →
   (True ∧
   (((decide (((k / 12) % 2) = 1)) = true →
    (True ∧
    (wM (mulZ (wM (mulZ (wM (mulZ (wM (mulZ (M3.mk 1 0 0 0 1 0 0 0 1) ((M3.mk 1 (-1) 0 1 0 0 0 0 1)))) ((M3.mk 1 (-1) 0 1 0 0 0 0 1)))) ((M3.mk 0 1 0 1 0 0 0 0 (-1))))) ((M3.mk (-1) 0 0 0 (-1) 0 0 0 (-1)))), ()) = (sixM k, ()))) ∧
   ((decide (((k / 12) % 2) = 1)) = false →
   (wM (mulZ (wM (mulZ (wM (mulZ (M3.mk 1 0 0 0 1 0 0 0 1) ((M3.mk 1 (-1) 0 1 0 0 0 0 1)))) ((M3.mk 1 (-1) 0 1 0 0 0 0 1)))) ((M3.mk 0 1 0 1 0 0 0 0 (-1)))), ()) = (sixM k, ()))))) ∧
  ((decide (((k / 6) % 2) = 1)) = false →
  (((decide (((k / 12) % 2) = 1)) = true →
   (True ∧
   (wM (mulZ (wM (mulZ (wM (mulZ (M3.mk 1 0 0 0 1 0 0 0 1) ((M3.mk 1 (-1) 0 1 0 0 0 0 1)))) ((M3.mk 1 (-1) 0 1 0 0 0 0 1)))) ((M3.mk (-1) 0 0 0 (-1) 0 0 0 (-1)))), ()) = (sixM k, ()))) ∧
  ((decide (((k / 12) % 2) = 1)) = false →
  (wM (mulZ (wM (mulZ (M3.mk 1 0 0 0 1 0 0 0 1) ((M3.mk 1 (-1) 0 1 0 0 0 0 1)))) ((M3.mk 1 (-1) 0 1 0 0 0 0 1))), ()) = (sixM k, ()))))))))) ∧
 ((decide (1 < (k % 6))) = false →
 (((decide (((k / 6) % 2) = 1)) = true →
  (True ∧
  (((decide (((k / 12) % 2) = 1)) = true →
   (True ∧
   (wM (mulZ (wM (mulZ (wM (mulZ (M3.mk 1 0 0 0 1 0 0 0 1) ((M3.mk 1 (-1) 0 1 0 0 0 0 1)))) ((M3.mk 0 1 0 1 0 0 0 0 (-1))))) ((M3.mk (-1) 0 0 0 (-1) 0 0 0 (-1)))), ()) = (sixM k, ()))) ∧
  ((decide (((k / 12) % 2) = 1)) = false →
  (wM (mulZ (wM (mulZ (M3.mk 1 0 0 0 1 0 0 0 1) ((M3.mk 1 (-1) 0 1 0 0 0 0 1)))) ((M3.mk 0 1 0 1 0 0 0 0 (-1)))), ()) = (sixM k, ()))))) ∧
 ((decide (((k / 6) % 2) = 1)) = false →
 (((decide (((k / 12) % 2) = 1)) = true →
  (True ∧
  (wM (mulZ (wM (mulZ (M3.mk 1 0 0 0 1 0 0 0 1) ((M3.mk 1 (-1) 0 1 0 0 0 0 1)))) ((M3.mk (-1) 0 0 0 (-1) 0 0 0 (-1)))), ()) = (sixM k, ()))) ∧
 ((decide (((k / 12) % 2) = 1)) = false →
 (wM (mulZ (M3.mk 1 0 0 0 1 0 0 0 1) ((M3.mk 1 (-1) 0 1 0 0 0 0 1))), ()) = (sixM k, ()))))))))) ∧
((decide (0 < (k % 6))) = false →
(((decide (((k / 6) % 2) = 1)) = true →
 (True ∧
 (((decide (((k / 12) % 2) = 1)) = true →
  (True ∧
  (wM (mulZ (wM (mulZ (M3.mk 1 0 0 0 1 0 0 0 1) ((M3.mk 0 1 0 1 0 0 0 0 (-1))))) ((M3.mk (-1) 0 0 0 (-1) 0 0 0 (-1)))), ()) = (sixM k, ()))) ∧
 ((decide (((k / 12) % 2) = 1)) = false →
 (wM (mulZ (M3.mk 1 0 0 0 1 0 0 0 1) ((M3.mk 0 1 0 1 0 0 0 0 (-1)))), ()) = (sixM k, ()))))) ∧
((decide (((k / 6) % 2) = 1)) = false →
(((decide (((k / 12) % 2) = 1)) = true →
 (True ∧
 (wM (mulZ (M3.mk 1 0 0 0 1 0 0 0 1) ((M3.mk (-1) 0 0 0 (-1) 0 0 0 (-1)))), ()) = (sixM k, ()))) ∧
((decide (((k / 12) % 2) = 1)) = false →
((M3.mk 1 0 0 0 1 0 0 0 1), ()) = (sixM k, ())))))))
theorem r_sixfold (x : HL C_sixfold.args) : runs (env0 [(152, C_ttimes)] [] []) 1500 143 C_sixfold x = T_sixfold x.1 := by kernel_rfl
theorem p_sixfold (k : Int) (h0 : (Sh.int .u8).okA k) : T_sixfold k := by
  have h6 : k % 6 = 0 ∨ k % 6 = 1 ∨ k % 6 = 2 ∨ k % 6 = 3 ∨ k % 6 = 4 ∨ k % 6 = 5 := by omega
  have hs : sixM k = (if (k / 12) % 2 = 1 then wM (mulZ (if (k / 6) % 2 = 1 then wM (mulZ (rotN (k % 6).toNat) (M3.mk 0 1 0 1 0 0 0 0 (-1))) else rotN (k % 6).toNat) (M3.mk (-1) 0 0 0 (-1) 0 0 0 (-1))) else (if (k / 6) % 2 = 1 then wM (mulZ (rotN (k % 6).toNat) (M3.mk 0 1 0 1 0 0 0 0 (-1))) else rotN (k % 6).toNat)) := rfl
  unfold T_sixfold
  rw [hs]
  rcases h6 with h | h | h | h | h | h <;> rw [h] <;> by_cases h1 : (k / 6) % 2 = 1 <;> by_cases h2 : (k / 12) % 2 = 1 <;> simp only [h1, h2, if_true, if_false] <;> simp <;> rfl
theorem s_sixfold : Sound Try.prog 143 C_sixfold :=
  sound_of_eq (env0_ok (.cons s_ttimes (.nil))) (fun x => T_sixfold x.1) r_sixfold fun x ok hp => p_sixfold x.1 ok.1
noncomputable def C_seeded : Contract := { args := [.agg .seed], res := [.agg .op], pre := fun _ => True, F := fun x => ((sedO x.1 : Op3), ()) }
def T_seeded (s : Sd) : Prop :=
  (True ∧
∀ z1 : M3,
(z1 = sgnM s.K →
(((s.Hex = true →
  (True ∧
  ∀ z4 : M3,
  (z4 = sixM s.K →
  sdM s z4))) ∧
 (s.Hex = false →
 sdM s z1)) ∧
∀ z3 : M3,
(sdM s z3 →
(((leP 0 (s.Step % 6) ∧
  leP (s.Step % 6) 5) ∧
 ((eqP (s.Step % 6) 0 →
  sdI s ((V3.mk (((s.t0 * 12) % 24)) 0 0)) 0) ∧
 ((eqP (s.Step % 6) 1 →
  sdI s ((V3.mk (((s.t0 * 12) % 24)) 0 0)) 0) ∧
 ((eqP (s.Step % 6) 2 →
  sdI s ((V3.mk (((s.t0 * 8) % 24)) 0 0)) 0) ∧
 ((eqP (s.Step % 6) 3 →
  sdI s ((V3.mk (((s.t0 * 6) % 24)) 0 0)) 0) ∧
 ((eqP (s.Step % 6) 4 →
  sdI s ((V3.mk (((s.t0 * 4) % 24)) 0 0)) 0) ∧
 (eqP (s.Step % 6) 5 →
 sdI s ((V3.mk (((s.t0 * 1) % 24)) 0 0)) 0))))))) ∧
∀ z5 : V3,
(sdI s z5 0 →
(((leP 0 (s.Step % 6) ∧
  leP (s.Step % 6) 5) ∧
 ((eqP (s.Step % 6) 0 →
  sdI s ((V3.mk z5.x (((s.t1 * 12) % 24)) z5.z)) 1) ∧
 ((eqP (s.Step % 6) 1 →
  sdI s ((V3.mk z5.x (((s.t1 * 12) % 24)) z5.z)) 1) ∧
 ((eqP (s.Step % 6) 2 →
  sdI s ((V3.mk z5.x (((s.t1 * 8) % 24)) z5.z)) 1) ∧
 ((eqP (s.Step % 6) 3 →
  sdI s ((V3.mk z5.x (((s.t1 * 6) % 24)) z5.z)) 1) ∧
 ((eqP (s.Step % 6) 4 →
  sdI s ((V3.mk z5.x (((s.t1 * 4) % 24)) z5.z)) 1) ∧
 (eqP (s.Step % 6) 5 →
 sdI s ((V3.mk z5.x (((s.t1 * 1) % 24)) z5.z)) 1))))))) ∧
∀ z7 : V3,
(sdI s z7 1 →
(((leP 0 (s.Step % 6) ∧
  leP (s.Step % 6) 5) ∧
 ((eqP (s.Step % 6) 0 →
  sdI s ((V3.mk z7.x z7.y (((s.t2 * 12) % 24)))) 2) ∧
 ((eqP (s.Step % 6) 1 →
  sdI s ((V3.mk z7.x z7.y (((s.t2 * 12) % 24)))) 2) ∧
 ((eqP (s.Step % 6) 2 →
  sdI s ((V3.mk z7.x z7.y (((s.t2 * 8) % 24)))) 2) ∧
 ((eqP (s.Step % 6) 3 →
  sdI s ((V3.mk z7.x z7.y (((s.t2 * 6) % 24)))) 2) ∧
 ((eqP (s.Step % 6) 4 →
  sdI s ((V3.mk z7.x z7.y (((s.t2 * 4) % 24)))) 2) ∧
 (eqP (s.Step % 6) 5 →
 sdI s ((V3.mk z7.x z7.y (((s.t2 * 1) % 24)))) 2))))))) ∧
∀ z9 : V3,
(sdI s z9 2 →
((Op3.mk z3 z9), ()) = (sedO s, ())))))))))))
theorem r_seeded (x : HL C_seeded.args) : runs (env0 [(142, C_signs.hid), (143, C_sixfold.hid)] [] [(110, 4, { fix := [(.cell 1, .agg .seed)], vars := [(.cell 3, .agg .mat)], inv := fun y v => sdM y.1 v.1, mu := fun y v => 0 }), (110, 8, { fix := [(.cell 1, .agg .seed), (.tmp 6, .int .i64)], vars := [(.cell 5, .agg .vec)], inv := fun y v => sdI y.1 v.1 y.2.1, mu := fun y v => 0 })]) 400 110 C_seeded x = T_seeded x.1 := by kernel_rfl
theorem p_seeded (s : Sd) (h0 : (Sh.agg .seed).okA s) : T_seeded s := by
  unfold T_seeded
  have hst : 0 ≤ s.Step % 6 ∧ s.Step % 6 ≤ 5 := by omega
  have step : ∀ (n c : Int), s.Step % 6 = n → stpI n = c → 0 ≤ n → n < 6 → stpI s.Step = c := fun n c h1 h2 h3 h4 => by
    unfold stpI at *
    rw [show n % 6 = n by omega] at h2
    rw [h1]; exact h2
  refine ⟨trivial, fun m hm => ⟨⟨fun h => ⟨trivial, fun m2 hm2 => by unfold sdM; rw [if_pos h, hm2]⟩, fun h => by unfold sdM; rw [if_neg (by rw [h]; decide), hm]⟩, fun m hM => ⟨⟨⟨hst.1, hst.2⟩, ?_⟩, fun t hT => ⟨⟨⟨hst.1, hst.2⟩, ?_⟩, fun t hT => ⟨⟨⟨hst.1, hst.2⟩, ?_⟩, fun t hT => by rw [sed_end hM hT]⟩⟩⟩⟩⟩ <;>
  (refine ⟨fun h => ?_, fun h => ?_, fun h => ?_, fun h => ?_, fun h => ?_, fun h => ?_⟩ <;>
   (have h := step _ _ h rfl (by decide) (by decide)
    unfold sdI
    rw [h]
    first | exact ⟨fun _ => rfl, fun h => absurd h (by decide), fun h => absurd h (by decide)⟩ | exact ⟨fun h1 => by rw [← h]; exact hT.1 (by decide), fun _ => rfl, fun h => absurd h (by decide)⟩ | exact ⟨fun h1 => by rw [← h]; exact hT.1 (by decide), fun h1 => by rw [← h]; exact hT.2.1 (by decide), fun _ => rfl⟩))
theorem s_seeded : Sound Try.prog 110 C_seeded :=
  sound_of_eq (env0_ok (.cons s_signs.hid (.cons s_sixfold.hid (.nil)))) (fun x => T_seeded x.1) r_seeded fun x ok hp => p_seeded x.1 ok.1
noncomputable def C_seeds : Contract := { args := [.list .seed], res := [.list .op], pre := fun _ => True, F := fun x => ((sedL x.1 : List Op3), ()) }
def T_seeds (l : List Sd) : Prop :=
  (((decide (0 < (l.length : Int))) = true →
 (inB l 0 ∧
 (inB l 0 ∧
 (True ∧
 ∀ z2 : Op3,
 (z2 = sedO ((l.getD 0 (Sd.mk false 0 0 0 0 0))) →
 (lfit 96 (lapp [] [z2]) ∧
 (((decide (1 < (l.length : Int))) = true →
  (inB l 1 ∧
  (inB l 0 ∧
  (True ∧
  ∀ z5 : Op3,
  (z5 = sedO ((Sd.mk (((l.getD 0 (Sd.mk false 0 0 0 0 0))).Hex) (((l.getD 1 (Sd.mk false 0 0 0 0 0))).K) (((l.getD 1 (Sd.mk false 0 0 0 0 0))).t0) (((l.getD 1 (Sd.mk false 0 0 0 0 0))).t1) (((l.getD 1 (Sd.mk false 0 0 0 0 0))).t2) (((l.getD 1 (Sd.mk false 0 0 0 0 0))).Step))) →
  (lfit 96 (lapp (lapp [] [z2]) [z5]) ∧
  (((decide (2 < (l.length : Int))) = true →
   (inB l 2 ∧
   (inB l 0 ∧
   (True ∧
   ∀ z8 : Op3,
   (z8 = sedO ((Sd.mk (((l.getD 0 (Sd.mk false 0 0 0 0 0))).Hex) (((l.getD 2 (Sd.mk false 0 0 0 0 0))).K) (((l.getD 2 (Sd.mk false 0 0 0 0 0))).t0) (((l.getD 2 (Sd.mk false 0 0 0 0 0))).t1) (((l.getD 2 (Sd.mk false 0 0 0 0 0))).t2) (((l.getD 2 (Sd.mk false 0 0 0 0 0))).Step))) →
   (lfit 96 (lapp (lapp (lapp [] [z2]) [z5]) [z8]) ∧
   (((decide (3 < (l.length : Int))) = true →
    (lapp (lapp (lapp [] [z2]) [z5]) [z8], ()) = (sedL l, ())) ∧
   ((decide (3 < (l.length : Int))) = false →
   (lapp (lapp (lapp [] [z2]) [z5]) [z8], ()) = (sedL l, ()))))))))) ∧
  ((decide (2 < (l.length : Int))) = false →
  (lapp (lapp [] [z2]) [z5], ()) = (sedL l, ()))))))))) ∧
 ((decide (1 < (l.length : Int))) = false →
 (lapp [] [z2], ()) = (sedL l, ()))))))))) ∧
((decide (0 < (l.length : Int))) = false →
([], ()) = (sedL l, ())))
theorem r_seeds (x : HL C_seeds.args) : runs (env0 [(110, C_seeded.hid)] [] []) 400 78 C_seeds x = T_seeds x.1 := by kernel_rfl
theorem p_seeds (l : List Sd) (h0 : (Sh.list .seed).okA l) : T_seeds l := by
  unfold T_seeds sedL
  match l with
  | [] => simp
  | [a] => simp [inB, lfit, lapp]
  | [a, b] => simp [inB, lfit, lapp]
  | a :: b :: c :: r => simp [inB, lfit, lapp]; omega
theorem s_seeds : Sound Try.prog 78 C_seeds :=
  sound_of_eq (env0_ok (.cons s_seeded.hid (.nil))) (fun x => T_seeds x.1) r_seeds fun x ok hp => p_seeds x.1 ok.1
noncomputable def C_tawake : Contract := { args := [], res := [.bool], pre := fun _ => True, F := fun x => ((true : Bool), ()) }
def T_tawake  : Prop :=
  (True ∧
∀ z0 : List Op3,
(z0 = cloL ([(Op3.mk ((M3.mk (-1) 0 0 0 (-1) 0 0 0 (-1))) (V3.mk 0 0 0))]) →
∀ z2 : Int,
(z2 = cloE ([(Op3.mk ((M3.mk (-1) 0 0 0 (-1) 0 0 0 (-1))) (V3.mk 0 0 0))]) →
(((decide (z2 = 0)) = true →
 ((decide ((z0.length : Int) = 2)), ()) = (true, ())) ∧
((decide (z2 = 0)) = false →
(false, ()) = (true, ()))))))
theorem r_tawake (x : HL C_tawake.args) : runs (env0 [(32, C_gClose.hid)] [] []) 400 37 C_tawake x = T_tawake  := by kernel_rfl
theorem p_tawake   : T_tawake  := by
  unfold T_tawake
  repeat' (first
    | exact trivial
    | rfl
    | (refine And.intro ?_ ?_)
    | (intro z; intro hz; subst hz)
    | (intro h; first | exact absurd h (by decide +kernel) | skip)
    | decide +kernel)
theorem s_tawake : Sound Try.prog 37 C_tawake :=
  sound_of_eq (env0_ok (.cons s_gClose.hid (.nil))) (fun x => T_tawake ) r_tawake fun x ok hp => p_tawake  
noncomputable def C_tsides : Contract := { args := [.agg .v8, .bool], res := [.agg .vec], pre := fun _ => True, F := fun x => ((sidV x.1 x.2.1 : V3), ()) }
def T_tsides (b : V3) (even : Bool) : Prop :=
  ((even = true → (eqP (b.x % 8) 0 → (V3.mk 1 1 1, ()) = (sidV b even, ())) ∧ (eqP (b.x % 8) 1 → (V3.mk 2 2 2, ()) = (sidV b even, ())) ∧ (eqP (b.x % 8) 2 → (V3.mk 3 3 3, ()) = (sidV b even, ())) ∧ (eqP (b.x % 8) 3 → (V3.mk 4 4 4, ()) = (sidV b even, ())) ∧ (eqP (b.x % 8) 4 → (V3.mk 6 6 6, ()) = (sidV b even, ())) ∧ (eqP (b.x % 8) 5 → (V3.mk 8 8 8, ()) = (sidV b even, ())) ∧ (eqP (b.x % 8) 6 → (V3.mk 12 12 12, ()) = (sidV b even, ())) ∧ (eqP (b.x % 8) 7 → (V3.mk 5 5 5, ()) = (sidV b even, ()))) ∧ (even = false → xrow b even))
theorem r_tsides (x : HL C_tsides.args) : runs (env0 [] [] []) 3000 39 C_tsides x = T_tsides x.1 x.2.1 := by kernel_rfl
theorem p_tsides (b : V3) (even : Bool) (h0 : (Sh.agg .v8).okA b) (h1 : (Sh.bool).okA even) : T_tsides b even := by
  unfold T_tsides
  refine ⟨fun he => ?_, fun he => xrow_ok he⟩
  exact ⟨fun a => sl1 a rfl he, fun a => sl1 a rfl he, fun a => sl1 a rfl he, fun a => sl1 a rfl he, fun a => sl1 a rfl he, fun a => sl1 a rfl he, fun a => sl1 a rfl he, fun a => sl1 a rfl he⟩
theorem s_tsides : Sound Try.prog 39 C_tsides :=
  sound_of_eq (env0_ok (.nil)) (fun x => T_tsides x.1 x.2.1) r_tsides fun x ok hp => p_tsides x.1 x.2.1 ok.1 ok.2.1
noncomputable def C_tfits : Contract := { args := [.list .op, .agg .vec], res := [.bool], pre := fun x => sidP x.2.1, F := fun x => ((alF x.1 x.2.1 : Bool), ()) }
def T_tfits (g : List Op3) (n : V3) : Prop :=
  (flI g n 0 ∧
∀ z2 : Int,
((decide ((-9223372036854775808) ≤ z2)) = true →
((decide (z2 ≤ 9223372036854775807)) = true →
(flI g n z2 →
(((decide (z2 < (g.length : Int))) = true →
 (inB g z2 ∧
 (((!(decide ((Int.tmod ((w64 (((((g.getD (z2).toNat zerO)).T).x * n.x)))) 24) = 0))) = true →
  (false, ()) = (alF g n, ())) ∧
 ((!(decide ((Int.tmod ((w64 (((((g.getD (z2).toNat zerO)).T).x * n.x)))) 24) = 0))) = false →
 (inB g z2 ∧
 ((n.x ≠ 0) ∧
 (((!(decide ((Int.tmod ((w64 (((((g.getD (z2).toNat zerO)).R).xx * n.x)))) n.x) = 0))) = true →
  (false, ()) = (alF g n, ())) ∧
 ((!(decide ((Int.tmod ((w64 (((((g.getD (z2).toNat zerO)).R).xx * n.x)))) n.x) = 0))) = false →
 (inB g z2 ∧
 ((n.y ≠ 0) ∧
 (((!(decide ((Int.tmod ((w64 (((((g.getD (z2).toNat zerO)).R).xy * n.x)))) n.y) = 0))) = true →
  (false, ()) = (alF g n, ())) ∧
 ((!(decide ((Int.tmod ((w64 (((((g.getD (z2).toNat zerO)).R).xy * n.x)))) n.y) = 0))) = false →
 (inB g z2 ∧
 ((n.z ≠ 0) ∧
 (((!(decide ((Int.tmod ((w64 (((((g.getD (z2).toNat zerO)).R).xz * n.x)))) n.z) = 0))) = true →
  (false, ()) = (alF g n, ())) ∧
 ((!(decide ((Int.tmod ((w64 (((((g.getD (z2).toNat zerO)).R).xz * n.x)))) n.z) = 0))) = false →
 (inB g z2 ∧
 (((!(decide ((Int.tmod ((w64 (((((g.getD (z2).toNat zerO)).T).y * n.y)))) 24) = 0))) = true →
  (false, ()) = (alF g n, ())) ∧
 ((!(decide ((Int.tmod ((w64 (((((g.getD (z2).toNat zerO)).T).y * n.y)))) 24) = 0))) = false →
 (inB g z2 ∧
 ((n.x ≠ 0) ∧
 (((!(decide ((Int.tmod ((w64 (((((g.getD (z2).toNat zerO)).R).yx * n.y)))) n.x) = 0))) = true →
  (false, ()) = (alF g n, ())) ∧
 ((!(decide ((Int.tmod ((w64 (((((g.getD (z2).toNat zerO)).R).yx * n.y)))) n.x) = 0))) = false →
 (inB g z2 ∧
 ((n.y ≠ 0) ∧
 (((!(decide ((Int.tmod ((w64 (((((g.getD (z2).toNat zerO)).R).yy * n.y)))) n.y) = 0))) = true →
  (false, ()) = (alF g n, ())) ∧
 ((!(decide ((Int.tmod ((w64 (((((g.getD (z2).toNat zerO)).R).yy * n.y)))) n.y) = 0))) = false →
 (inB g z2 ∧
 ((n.z ≠ 0) ∧
 (((!(decide ((Int.tmod ((w64 (((((g.getD (z2).toNat zerO)).R).yz * n.y)))) n.z) = 0))) = true →
  (false, ()) = (alF g n, ())) ∧
 ((!(decide ((Int.tmod ((w64 (((((g.getD (z2).toNat zerO)).R).yz * n.y)))) n.z) = 0))) = false →
 (inB g z2 ∧
 (((!(decide ((Int.tmod ((w64 (((((g.getD (z2).toNat zerO)).T).z * n.z)))) 24) = 0))) = true →
  (false, ()) = (alF g n, ())) ∧
 ((!(decide ((Int.tmod ((w64 (((((g.getD (z2).toNat zerO)).T).z * n.z)))) 24) = 0))) = false →
 (inB g z2 ∧
 ((n.x ≠ 0) ∧
 (((!(decide ((Int.tmod ((w64 (((((g.getD (z2).toNat zerO)).R).zx * n.z)))) n.x) = 0))) = true →
  (false, ()) = (alF g n, ())) ∧
 ((!(decide ((Int.tmod ((w64 (((((g.getD (z2).toNat zerO)).R).zx * n.z)))) n.x) = 0))) = false →
 (inB g z2 ∧
 ((n.y ≠ 0) ∧
 (((!(decide ((Int.tmod ((w64 (((((g.getD (z2).toNat zerO)).R).zy * n.z)))) n.y) = 0))) = true →
  (false, ()) = (alF g n, ())) ∧
 ((!(decide ((Int.tmod ((w64 (((((g.getD (z2).toNat zerO)).R).zy * n.z)))) n.y) = 0))) = false →
 (inB g z2 ∧
 ((n.z ≠ 0) ∧
 (((!(decide ((Int.tmod ((w64 (((((g.getD (z2).toNat zerO)).R).zz * n.z)))) n.z) = 0))) = true →
  (false, ()) = (alF g n, ())) ∧
 ((!(decide ((Int.tmod ((w64 (((((g.getD (z2).toNat zerO)).R).zz * n.z)))) n.z) = 0))) = false →
 (flI g n ((w64 (z2 + 1))) ∧
 ((decide (0 ≤ opMu g ((w64 (z2 + 1))))) = true ∧
 (decide (opMu g ((w64 (z2 + 1))) < opMu g z2)) = true)))))))))))))))))))))))))))))))))))))))))))))))) ∧
((decide (z2 < (g.length : Int))) = false →
(true, ()) = (alF g n, ())))))))
theorem r_tfits (x : HL C_tfits.args) : runs (env0 [] [(40, 2, { fix := [], vars := [(.tmp 5, .int .i64)], inv := fun y v => flI x.1 x.2.1 v.1, mu := fun y v => opMu x.1 v.1 })] []) 3000 40 C_tfits x = T_tfits x.1 x.2.1 := by kernel_rfl
theorem p_tfits (g : List Op3) (n : V3) (h0 : (Sh.list .op).okA g) (h1 : (Sh.agg .vec).okA n) (hp : sidP n) : T_tfits g n := by
  have hb : g.length * 96 ≤ room := h0.2
  have hs : Sid n := sid_ok hp
  have nx : n.x ≠ 0 := by have := hs.x0; omega
  have ny : n.y ≠ 0 := by have := hs.y0; omega
  have nz : n.z ≠ 0 := by have := hs.z0; omega
  unfold T_tfits
  refine ⟨⟨Int.le_refl _, by omega, fun k hk => absurd hk (by simp)⟩, fun i _ _ hI => ⟨fun hi => ?_, fun hi => ?_⟩⟩
  · have hi := of_decide_eq_true hi
    have hin : inB g i := ⟨hI.1, hi⟩
    have bad : fitB (g.getD i.toNat zerO) n = false → (false, ()) = (alF g n, ()) := fun h => by
      have := fl_bad hI.1 hi (n := n) (by rw [h]; decide)
      rw [show alF g n = false from by unfold alF; simpa using this]
    obtain ⟨e1, e2, e3⟩ := opMu_next hb hI.1 hi
    rw [e1] at e2 e3 ⊢
    refine ⟨hin, fun b => bad (by unfold fitB; rw [tst_f b]; simp only [Bool.and_false, Bool.false_and]), fun t0 => ⟨hin, nx, fun b => bad (by unfold fitB; rw [tst_f b]; simp only [Bool.and_false, Bool.false_and]), fun t1 => ⟨hin, ny, fun b => bad (by unfold fitB; rw [tst_f b]; simp only [Bool.and_false, Bool.false_and]), fun t2 => ⟨hin, nz, fun b => bad (by unfold fitB; rw [tst_f b]; simp only [Bool.and_false, Bool.false_and]), fun t3 => ⟨hin, fun b => bad (by unfold fitB; rw [tst_f b]; simp only [Bool.and_false, Bool.false_and]), fun t4 => ⟨hin, nx, fun b => bad (by unfold fitB; rw [tst_f b]; simp only [Bool.and_false, Bool.false_and]), fun t5 => ⟨hin, ny, fun b => bad (by unfold fitB; rw [tst_f b]; simp only [Bool.and_false, Bool.false_and]), fun t6 => ⟨hin, nz, fun b => bad (by unfold fitB; rw [tst_f b]; simp only [Bool.and_false, Bool.false_and]), fun t7 => ⟨hin, fun b => bad (by unfold fitB; rw [tst_f b]; simp only [Bool.and_false, Bool.false_and]), fun t8 => ⟨hin, nx, fun b => bad (by unfold fitB; rw [tst_f b]; simp only [Bool.and_false, Bool.false_and]), fun t9 => ⟨hin, ny, fun b => bad (by unfold fitB; rw [tst_f b]; simp only [Bool.and_false, Bool.false_and]), fun t10 => ⟨hin, nz, fun b => bad (by unfold fitB; rw [tst_f b]; simp only [Bool.and_false, Bool.false_and]), fun t11 => ⟨fl_next hI hi ?_, e2, e3⟩⟩⟩⟩⟩⟩⟩⟩⟩⟩⟩⟩⟩
    unfold fitB
    rw [tst_t t0, tst_t t1, tst_t t2, tst_t t3, tst_t t4, tst_t t5, tst_t t6, tst_t t7, tst_t t8, tst_t t9, tst_t t10, tst_t t11]; rfl
  · rw [show alF g n = true from fl_end hI (of_decide_eq_false hi)]
theorem s_tfits : Sound Try.prog 40 C_tfits :=
  sound_of_eqs (fun x => env0 [] [(40, 2, { fix := [], vars := [(.tmp 5, .int .i64)], inv := fun y v => flI x.1 x.2.1 v.1, mu := fun y v => opMu x.1 v.1 })] []) (fun _ => rfl) (fun _ => env0_ok (.nil)) (fun x => T_tfits x.1 x.2.1) r_tfits fun x ok hp => p_tfits x.1 x.2.1 ok.1 ok.2.1 hp
noncomputable def C_tspot : Contract := { args := [.agg .vec, .agg .vec], res := [.int .i64], pre := fun x => numP x.2.1 x.1, F := fun x => ((numV x.2.1 x.1 : Int), ()) }
def T_tspot (a : V3) (n : V3) : Prop :=
  ((w64 (((w64 (((w64 (((w64 (a.x * n.y)) + a.y))) * n.z))) + a.z))), ()) = (numV n a, ())
theorem r_tspot (x : HL C_tspot.args) : runs (env0 [] [] []) 400 41 C_tspot x = T_tspot x.1 x.2.1 := by kernel_rfl
theorem p_tspot (a : V3) (n : V3) (h0 : (Sh.agg .vec).okA a) (h1 : (Sh.agg .vec).okA n) (hp : numP n a) : T_tspot a n := by
  unfold T_tspot
  rw [num_w (sid_ok hp.1) hp.2]
theorem s_tspot : Sound Try.prog 41 C_tspot :=
  sound_of_eq (env0_ok (.nil)) (fun x => T_tspot x.1 x.2.1) r_tspot fun x ok hp => p_tspot x.1 x.2.1 ok.1 ok.2.1 hp
end Go.Fx
