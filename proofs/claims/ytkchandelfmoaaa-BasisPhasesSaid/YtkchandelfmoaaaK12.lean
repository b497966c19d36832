/-
  Contracts: BasisGoes.
-/
import Derived.Test.YtkchandelfmoaaaK11
import Derived.Test.YtkchandelfmoaaaBg
namespace Go.Fx
open Go Go.Proofs
set_option maxRecDepth 100000
set_option linter.unusedVariables false
noncomputable def C_BasisGoes : Contract := { args := [.agg .chg, .agg .op, .agg .pt], res := [.bool], pre := fun _ => True, F := fun x => ((true : Bool), ()) }
def T_BasisGoes (c : Chg) (o : Op3) (p : Pt) : Prop :=
  (True ∧
(((!true) = true →
 (false, ()) = (true, ())) ∧
((!true) = false →
(True ∧
∀ z4 : Pt,
(z4 = appP o p →
∀ z6 : Int,
(z6 = appE o p →
(True ∧
(True ∧
(True ∧
(True ∧
(((!(decide (z6 = 0))) = true →
 (((decide (z6 = 3)) = true →
  (((decide (z6 = 0)) = true →
   (true, ()) = (true, ())) ∧
  ((decide (z6 = 0)) = false →
  (((decide (z4.M = 0)) && ((decide (z4.X.x = 0)) && ((decide (z4.X.y = 0)) && ((decide (z4.X.z = 0)) && true)))), ()) = (true, ())))) ∧
 ((decide (z6 = 3)) = false →
 (((decide (z6 = 4)) = true →
  (((decide (z6 = 0)) = true →
   (true, ()) = (true, ())) ∧
  ((decide (z6 = 0)) = false →
  (((decide (z4.M = 0)) && ((decide (z4.X.x = 0)) && ((decide (z4.X.y = 0)) && ((decide (z4.X.z = 0)) && true)))), ()) = (true, ())))) ∧
 ((decide (z6 = 4)) = false →
 (((decide (bopE c o = 3)) = true →
  (((decide (z6 = 0)) = true →
   (true, ()) = (true, ())) ∧
  ((decide (z6 = 0)) = false →
  (((decide (z4.M = 0)) && ((decide (z4.X.x = 0)) && ((decide (z4.X.y = 0)) && ((decide (z4.X.z = 0)) && true)))), ()) = (true, ())))) ∧
 ((decide (bopE c o = 3)) = false →
 (((decide (bopE c o = 4)) = true →
  (((decide (z6 = 0)) = true →
   (true, ()) = (true, ())) ∧
  ((decide (z6 = 0)) = false →
  (((decide (z4.M = 0)) && ((decide (z4.X.x = 0)) && ((decide (z4.X.y = 0)) && ((decide (z4.X.z = 0)) && true)))), ()) = (true, ())))) ∧
 ((decide (bopE c o = 4)) = false →
 (((decide (pntE c p = 3)) = true →
  (((decide (z6 = 0)) = true →
   (true, ()) = (true, ())) ∧
  ((decide (z6 = 0)) = false →
  (((decide (z4.M = 0)) && ((decide (z4.X.x = 0)) && ((decide (z4.X.y = 0)) && ((decide (z4.X.z = 0)) && true)))), ()) = (true, ())))) ∧
 ((decide (pntE c p = 3)) = false →
 (((decide (pntE c p = 4)) = true →
  (((decide (z6 = 0)) = true →
   (true, ()) = (true, ())) ∧
  ((decide (z6 = 0)) = false →
  (((decide (z4.M = 0)) && ((decide (z4.X.x = 0)) && ((decide (z4.X.y = 0)) && ((decide (z4.X.z = 0)) && true)))), ()) = (true, ())))) ∧
 ((decide (pntE c p = 4)) = false →
 (false, ()) = (true, ())))))))))))))) ∧
((!(decide (z6 = 0))) = false →
(((!(decide (bopE c o = 0))) = true →
 (((decide (z6 = 3)) = true →
  (((decide (z6 = 0)) = true →
   (true, ()) = (true, ())) ∧
  ((decide (z6 = 0)) = false →
  (((decide (z4.M = 0)) && ((decide (z4.X.x = 0)) && ((decide (z4.X.y = 0)) && ((decide (z4.X.z = 0)) && true)))), ()) = (true, ())))) ∧
 ((decide (z6 = 3)) = false →
 (((decide (z6 = 4)) = true →
  (((decide (z6 = 0)) = true →
   (true, ()) = (true, ())) ∧
  ((decide (z6 = 0)) = false →
  (((decide (z4.M = 0)) && ((decide (z4.X.x = 0)) && ((decide (z4.X.y = 0)) && ((decide (z4.X.z = 0)) && true)))), ()) = (true, ())))) ∧
 ((decide (z6 = 4)) = false →
 (((decide (bopE c o = 3)) = true →
  (((decide (z6 = 0)) = true →
   (true, ()) = (true, ())) ∧
  ((decide (z6 = 0)) = false →
  (((decide (z4.M = 0)) && ((decide (z4.X.x = 0)) && ((decide (z4.X.y = 0)) && ((decide (z4.X.z = 0)) && true)))), ()) = (true, ())))) ∧
 ((decide (bopE c o = 3)) = false →
 (((decide (bopE c o = 4)) = true →
  (((decide (z6 = 0)) = true →
   (true, ()) = (true, ())) ∧
  ((decide (z6 = 0)) = false →
  (((decide (z4.M = 0)) && ((decide (z4.X.x = 0)) && ((decide (z4.X.y = 0)) && ((decide (z4.X.z = 0)) && true)))), ()) = (true, ())))) ∧
 ((decide (bopE c o = 4)) = false →
 (((decide (pntE c p = 3)) = true →
  (((decide (z6 = 0)) = true →
   (true, ()) = (true, ())) ∧
  ((decide (z6 = 0)) = false →
  (((decide (z4.M = 0)) && ((decide (z4.X.x = 0)) && ((decide (z4.X.y = 0)) && ((decide (z4.X.z = 0)) && true)))), ()) = (true, ())))) ∧
 ((decide (pntE c p = 3)) = false →
 (((decide (pntE c p = 4)) = true →
  (((decide (z6 = 0)) = true →
   (true, ()) = (true, ())) ∧
  ((decide (z6 = 0)) = false →
  (((decide (z4.M = 0)) && ((decide (z4.X.x = 0)) && ((decide (z4.X.y = 0)) && ((decide (z4.X.z = 0)) && true)))), ()) = (true, ())))) ∧
 ((decide (pntE c p = 4)) = false →
 (false, ()) = (true, ())))))))))))))) ∧
((!(decide (bopE c o = 0))) = false →
(((!(decide (pntE c p = 0))) = true →
 (((decide (z6 = 3)) = true →
  (((decide (z6 = 0)) = true →
   (true, ()) = (true, ())) ∧
  ((decide (z6 = 0)) = false →
  (((decide (z4.M = 0)) && ((decide (z4.X.x = 0)) && ((decide (z4.X.y = 0)) && ((decide (z4.X.z = 0)) && true)))), ()) = (true, ())))) ∧
 ((decide (z6 = 3)) = false →
 (((decide (z6 = 4)) = true →
  (((decide (z6 = 0)) = true →
   (true, ()) = (true, ())) ∧
  ((decide (z6 = 0)) = false →
  (((decide (z4.M = 0)) && ((decide (z4.X.x = 0)) && ((decide (z4.X.y = 0)) && ((decide (z4.X.z = 0)) && true)))), ()) = (true, ())))) ∧
 ((decide (z6 = 4)) = false →
 (((decide (bopE c o = 3)) = true →
  (((decide (z6 = 0)) = true →
   (true, ()) = (true, ())) ∧
  ((decide (z6 = 0)) = false →
  (((decide (z4.M = 0)) && ((decide (z4.X.x = 0)) && ((decide (z4.X.y = 0)) && ((decide (z4.X.z = 0)) && true)))), ()) = (true, ())))) ∧
 ((decide (bopE c o = 3)) = false →
 (((decide (bopE c o = 4)) = true →
  (((decide (z6 = 0)) = true →
   (true, ()) = (true, ())) ∧
  ((decide (z6 = 0)) = false →
  (((decide (z4.M = 0)) && ((decide (z4.X.x = 0)) && ((decide (z4.X.y = 0)) && ((decide (z4.X.z = 0)) && true)))), ()) = (true, ())))) ∧
 ((decide (bopE c o = 4)) = false →
 (((decide (pntE c p = 3)) = true →
  (((decide (z6 = 0)) = true →
   (true, ()) = (true, ())) ∧
  ((decide (z6 = 0)) = false →
  (((decide (z4.M = 0)) && ((decide (z4.X.x = 0)) && ((decide (z4.X.y = 0)) && ((decide (z4.X.z = 0)) && true)))), ()) = (true, ())))) ∧
 ((decide (pntE c p = 3)) = false →
 (((decide (pntE c p = 4)) = true →
  (((decide (z6 = 0)) = true →
   (true, ()) = (true, ())) ∧
  ((decide (z6 = 0)) = false →
  (((decide (z4.M = 0)) && ((decide (z4.X.x = 0)) && ((decide (z4.X.y = 0)) && ((decide (z4.X.z = 0)) && true)))), ()) = (true, ())))) ∧
 ((decide (pntE c p = 4)) = false →
 (false, ()) = (true, ())))))))))))))) ∧
((!(decide (pntE c p = 0))) = false →
(True ∧
∀ z11 : Pt,
(z11 = appP (bopO c o) (pntP c p) →
∀ z13 : Int,
(z13 = appE (bopO c o) (pntP c p) →
(True ∧
(True ∧
(((decide (z13 = 0)) = true →
 (((decide (pntE c z4 = 0)) = true →
  ((((decide (z11.M = (pntP c z4).M)) && ((decide (z11.X.x = ((pntP c z4).X).x)) && ((decide (z11.X.y = ((pntP c z4).X).y)) && ((decide (z11.X.z = ((pntP c z4).X).z)) && true)))) = true →
   (True ∧
   ∀ z18 : Bool,
   (z18 = frmP z11 →
   (z18, ()) = (true, ())))) ∧
  (((decide (z11.M = (pntP c z4).M)) && ((decide (z11.X.x = ((pntP c z4).X).x)) && ((decide (z11.X.y = ((pntP c z4).X).y)) && ((decide (z11.X.z = ((pntP c z4).X).z)) && true)))) = false →
  (false, ()) = (true, ())))) ∧
 ((decide (pntE c z4 = 0)) = false →
 (false, ()) = (true, ())))) ∧
((decide (z13 = 0)) = false →
(false, ()) = (true, ()))))))))))))))))))))))))
theorem r_BasisGoes (x : HL C_BasisGoes.args) : runs (env [(11, C_f7of), (13, C_awake7), (25, C_opApply.hid), (22, C_bOp.hid), (15, C_bPoint.hid), (26, C_fForm.hid)] []) 400 7 C_BasisGoes x = T_BasisGoes x.1 x.2.1 x.2.2.1 := by kernel_rfl
theorem p_BasisGoes (c : Chg) (o : Op3) (p : Pt) (h0 : (Sh.agg .chg).okA c) (h1 : (Sh.agg .op).okA o) (h2 : (Sh.agg .pt).okA p) : T_BasisGoes c o p := by
  unfold T_BasisGoes
  have v1 := appE_vals o p
  have v2 := bopE_vals c o
  have v3 := pntE_vals c p
  by_cases h1 : appE o p = 0
  · by_cases h2 : bopE c o = 0
    · by_cases h3 : pntE c p = 0
      · obtain ⟨g1, g2, g3, g4⟩ := goes h1 h2 h3
        rw [g3] at g4
        simp [h1, h2, h3, g1, g2, g3, g4]
      · rcases v3 with e | e | e
        · exact absurd e h3
        · simp [h1, h2, e]
        · simp [h1, h2, e]
    · rcases v2 with e | e | e
      · exact absurd e h2
      · simp [h1, e]
      · simp [h1, e]
  · have hz := app_zer h1
    rcases v1 with e | e | e
    · exact absurd e h1
    · simp [e, hz, zerP]
    · simp [e, hz, zerP]
theorem s_BasisGoes : Sound Try.prog 7 C_BasisGoes :=
  sound_of_eq (env_ok (.cons s_f7of (.cons s_awake7 (.cons s_opApply.hid (.cons s_bOp.hid (.cons s_bPoint.hid (.cons s_fForm.hid (.nil)))))))) (fun x => T_BasisGoes x.1 x.2.1 x.2.2.1) r_BasisGoes fun x ok hp => p_BasisGoes x.1 x.2.1 x.2.2.1 ok.1 ok.2.1 ok.2.2.1
end Go.Fx
