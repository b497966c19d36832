/-
  Contracts: opmod, fmod, fAdd, cmpInt.
-/
import Derived.Test.YtlhkgleaeoaokaaK4
namespace Go.Fx
open Go Go.Proofs
set_option maxRecDepth 100000
set_option linter.unusedVariables false
set_option linter.unusedSimpArgs false
set_option linter.unusedSectionVars false
noncomputable def C_opmod : Contract := { args := [.int .i64], res := [.int .i64], pre := fun _ => True, F := fun x => ((r24 x.1 : Int), ()) }
def T_opmod (n : Int) : Prop :=
  ((((Int.tmod n 24) + 24) % 24), ()) = (r24 n, ())
theorem r_opmod (x : HL C_opmod.args) : runs (env0 [] [] []) 400 65 C_opmod x = T_opmod x.1 := by kernel_rfl
theorem p_opmod (n : Int) (h0 : (Sh.int .i64).okA n) : T_opmod n := by
  rfl
theorem s_opmod : Sound Try.prog 65 C_opmod :=
  sound_of_eq (env0_ok (.nil)) (fun x => T_opmod x.1) r_opmod fun x ok hp => p_opmod x.1 ok.1
noncomputable def C_fmod : Contract := { args := [.int .i64, .int .i64], res := [.int .i64], pre := fun x => inM x.2.1, F := fun x => ((emo x.1 x.2.1 : Int), ()) }
def T_fmod (n : Int) (m : Int) : Prop :=
  ((m ≠ 0) ∧
((m ≠ 0) ∧
((Int.tmod ((w64 (((Int.tmod n m) + m)))) m), ()) = (emo n m, ())))
theorem r_fmod (x : HL C_fmod.args) : runs (env0 [] [] []) 400 64 C_fmod x = T_fmod x.1 x.2.1 := by kernel_rfl
theorem p_fmod (n : Int) (m : Int) (h0 : (Sh.int .i64).okA n) (h1 : (Sh.int .i64).okA m) (hp : inM m) : T_fmod n m := by
  obtain ⟨e1, e2, e3⟩ := fmod_eq (n := n) hp
  exact ⟨e3, e3, by rw [e1, e2]; rfl⟩
theorem s_fmod : Sound Try.prog 64 C_fmod :=
  sound_of_eq (env0_ok (.nil)) (fun x => T_fmod x.1 x.2.1) r_fmod fun x ok hp => p_fmod x.1 x.2.1 ok.1 ok.2.1 hp
noncomputable def C_fAdd : Contract := { args := [.agg .vec, .agg .vec], res := [.agg .vec], pre := fun _ => True, F := fun x => ((addT x.1 x.2.1 : V3), ()) }
def T_fAdd (a : V3) (b : V3) : Prop :=
  (inM 24 ∧
(inM 24 ∧
(inM 24 ∧
((V3.mk (emo (((Int.tmod a.x 24) + (Int.tmod b.x 24))) 24) (emo (((Int.tmod a.y 24) + (Int.tmod b.y 24))) 24) (emo (((Int.tmod a.z 24) + (Int.tmod b.z 24))) 24)), ()) = (addT a b, ()))))
theorem r_fAdd (x : HL C_fAdd.args) : runs (env0 [(64, C_fmod)] [] []) 400 41 C_fAdd x = T_fAdd x.1 x.2.1 := by kernel_rfl
theorem p_fAdd (a : V3) (b : V3) (h0 : (Sh.agg .vec).okA a) (h1 : (Sh.agg .vec).okA b) : T_fAdd a b := by
  refine ⟨k24, k24, k24, ?_⟩
  simp only [emo, add24']; rfl
theorem s_fAdd : Sound Try.prog 41 C_fAdd :=
  sound_of_eq (env0_ok (.cons s_fmod (.nil))) (fun x => T_fAdd x.1 x.2.1) r_fAdd fun x ok hp => p_fAdd x.1 x.2.1 ok.1 ok.2.1
noncomputable def C_cmpInt : Contract := { args := [.int .i64, .int .i64], res := [.int .i64], pre := fun _ => True, F := fun x => ((cmpE x.1 x.2.1 0 : Int), ()) }
def T_cmpInt (a : Int) (b : Int) : Prop :=
  (((!(decide (a = a))) = true →
 (((!(decide (b = b))) = true →
  (0, ()) = (cmpE a b 0, ())) ∧
 ((!(decide (b = b))) = false →
 ((-1), ()) = (cmpE a b 0, ())))) ∧
((!(decide (a = a))) = false →
(((!(decide (b = b))) = true →
 (1, ()) = (cmpE a b 0, ())) ∧
((!(decide (b = b))) = false →
(((decide (a < b)) = true →
 ((-1), ()) = (cmpE a b 0, ())) ∧
((decide (a < b)) = false →
(((decide (b < a)) = true →
 (1, ()) = (cmpE a b 0, ())) ∧
((decide (b < a)) = false →
(0, ()) = (cmpE a b 0, ())))))))))
theorem r_cmpInt (x : HL C_cmpInt.args) : runs (env0 [] [] []) 400 37 C_cmpInt x = T_cmpInt x.1 x.2.1 := by kernel_rfl
theorem p_cmpInt (a : Int) (b : Int) (h0 : (Sh.int .i64).okA a) (h1 : (Sh.int .i64).okA b) : T_cmpInt a b := by
  by_cases h1 : a < b <;> by_cases h2 : b < a <;> simp [T_cmpInt, cmpE, h1, h2]
theorem s_cmpInt : Sound Try.prog 37 C_cmpInt :=
  sound_of_eq (env0_ok (.nil)) (fun x => T_cmpInt x.1 x.2.1) r_cmpInt fun x ok hp => p_cmpInt x.1 x.2.1 ok.1 ok.2.1
end Go.Fx
