/-
  Contracts: VecCompares.
-/
import Derived.Test.YtgnidjcidocpkaaK7
namespace Go.Fx
open Go Go.Proofs
set_option maxRecDepth 100000
set_option linter.unusedVariables false
noncomputable def C_VecCompares : Contract := { args := [.agg .mat, .agg .mat, .agg .mat], res := [.bool], pre := fun _ => True, F := fun x => ((true : Bool), ()) }
def T_VecCompares (a : M3) (b : M3) (c : M3) : Prop :=
  (True ∧
(True ∧
(True ∧
(True ∧
(((!true) = true →
 (false, ()) = (true, ())) ∧
((!true) = false →
(True ∧
(((!(decide (cmpM a b = cmpM a b))) = true →
 (false, ()) = (true, ())) ∧
((!(decide (cmpM a b = cmpM a b))) = false →
(True ∧
(((!(decide (cmpM b c = cmpM b c))) = true →
 (false, ()) = (true, ())) ∧
((!(decide (cmpM b c = cmpM b c))) = false →
(True ∧
(((!(decide (cmpM b a = (w64 (0 - cmpM a b))))) = true →
 (false, ()) = (true, ())) ∧
((!(decide (cmpM b a = (w64 (0 - cmpM a b))))) = false →
(True ∧
(((!(decide (cmpM a a = 0))) = true →
 (false, ()) = (true, ())) ∧
((!(decide (cmpM a a = 0))) = false →
(((!((decide (cmpM a b = 0)) == ((decide (a.xx = b.xx)) && ((decide (a.xy = b.xy)) && ((decide (a.xz = b.xz)) && ((decide (a.yx = b.yx)) && ((decide (a.yy = b.yy)) && ((decide (a.yz = b.yz)) && ((decide (a.zx = b.zx)) && ((decide (a.zy = b.zy)) && ((decide (a.zz = b.zz)) && true))))))))))) = true →
 (false, ()) = (true, ())) ∧
((!((decide (cmpM a b = 0)) == ((decide (a.xx = b.xx)) && ((decide (a.xy = b.xy)) && ((decide (a.xz = b.xz)) && ((decide (a.yx = b.yx)) && ((decide (a.yy = b.yy)) && ((decide (a.yz = b.yz)) && ((decide (a.zx = b.zx)) && ((decide (a.zy = b.zy)) && ((decide (a.zz = b.zz)) && true))))))))))) = false →
(((decide (cmpM a b ≤ 0)) = true →
 (((decide (cmpM b c ≤ 0)) = true →
  (((!(decide (0 < cmpM a c))) = true →
   (((decide (cmpM a b < 0)) = true →
    (((decide (cmpM b c ≤ 0)) = true →
     ((!(!(decide (cmpM a c = (-1))))), ()) = (true, ())) ∧
    ((decide (cmpM b c ≤ 0)) = false →
    (true, ()) = (true, ())))) ∧
   ((decide (cmpM a b < 0)) = false →
   (true, ()) = (true, ())))) ∧
  ((!(decide (0 < cmpM a c))) = false →
  (false, ()) = (true, ())))) ∧
 ((decide (cmpM b c ≤ 0)) = false →
 (((decide (cmpM a b < 0)) = true →
  (((decide (cmpM b c ≤ 0)) = true →
   ((!(!(decide (cmpM a c = (-1))))), ()) = (true, ())) ∧
  ((decide (cmpM b c ≤ 0)) = false →
  (true, ()) = (true, ())))) ∧
 ((decide (cmpM a b < 0)) = false →
 (true, ()) = (true, ())))))) ∧
((decide (cmpM a b ≤ 0)) = false →
(((decide (cmpM a b < 0)) = true →
 (((decide (cmpM b c ≤ 0)) = true →
  ((!(!(decide (cmpM a c = (-1))))), ()) = (true, ())) ∧
 ((decide (cmpM b c ≤ 0)) = false →
 (true, ()) = (true, ())))) ∧
((decide (cmpM a b < 0)) = false →
(true, ()) = (true, ())))))))))))))))))))))))))
theorem r_VecCompares (x : HL C_VecCompares.args) : runs (env [(10, C_awake), (19, C_Compare), (20, C_rCompare)] []) 400 4 C_VecCompares x = T_VecCompares x.1 x.2.1 x.2.2.1 := by kernel_rfl
theorem p_VecCompares (a : M3) (b : M3) (c : M3) (h0 : (Sh.agg .mat).okA a) (h1 : (Sh.agg .mat).okA b) (h2 : (Sh.agg .mat).okA c) : T_VecCompares a b c := by
  have r1 := lexL_range a.row b.row
  have r2 := lexL_range b.row c.row
  have r3 := lexL_range a.row c.row
  obtain ⟨t1, t2, t3⟩ := lexL_trans (a := a.row) (b := b.row) (c := c.row) rfl rfl
  rw [← cmpM_lex] at r1 r2 r3
  rw [← cmpM_lex, ← cmpM_lex, ← cmpM_lex] at t1 t2
  refine ⟨trivial, trivial, trivial, trivial, fun h => absurd h (by decide), fun _ => ⟨trivial, fun h => absurd (of_decide_eq_false (no_not h)) (fun h => h rfl), fun _ => ⟨trivial, fun h => absurd (of_decide_eq_false (no_not h)) (fun h => h rfl), fun _ => ⟨trivial, fun h => absurd (of_decide_eq_false (no_not h)) (fun h => h ?_), fun _ => ⟨trivial, fun h => absurd (of_decide_eq_false (no_not h)) (fun h => h (cmpM_self a)), fun _ => ⟨fun h => ?_, fun _ => ?_⟩⟩⟩⟩⟩⟩
  · rw [cmpM_anti a b, w64_id (by omega) (by omega)]; omega
  · have h := no_not h
    rw [eqM_cmp] at h
    exact absurd h (by show (eqM a b == eqM a b) ≠ false; simp)
  · clear h0 h1 h2
    generalize cmpM a b = x at *
    generalize cmpM b c = y at *
    generalize cmpM a c = z at *
    simp only [decide_eq_true_eq, decide_eq_false_iff_not, Bool.not_not, Bool.not_eq_true', Bool.not_eq_false', Prod.mk.injEq, and_true, implies_true, and_self]
    repeat' (first | apply And.intro | intro _)
    all_goals first | omega | trivial
theorem s_VecCompares : Sound Try.prog 4 C_VecCompares :=
  sound_of_eq (env_ok (.cons s_awake (.cons s_Compare (.cons s_rCompare (.nil))))) (fun x => T_VecCompares x.1 x.2.1 x.2.2.1) r_VecCompares fun x ok hp => p_VecCompares x.1 x.2.1 x.2.2.1 ok.1 ok.2.1 ok.2.2.1
end Go.Fx
