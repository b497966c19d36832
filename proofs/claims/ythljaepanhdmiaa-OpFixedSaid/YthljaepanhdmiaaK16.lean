/-
  Contracts: OpCompares.
-/
import Derived.Test.YthljaepanhdmiaaK15
namespace Go.Fx
open Go Go.Proofs
set_option maxRecDepth 100000
set_option linter.unusedVariables false
noncomputable def C_OpCompares : Contract := { args := [.agg .op, .agg .op, .agg .op], res := [.bool], pre := fun _ => True, F := fun x => ((true : Bool), ()) }
def T_OpCompares (a : Op3) (b : Op3) (c : Op3) : Prop :=
  (True ∧
(((!true) = true →
 (false, ()) = (true, ())) ∧
((!true) = false →
(True ∧
(True ∧
(True ∧
(True ∧
∀ z4 : Int,
(z4 = cmpO a b →
(((!(decide (cmpO a b = z4))) = true →
 (false, ()) = (true, ())) ∧
((!(decide (cmpO a b = z4))) = false →
(True ∧
∀ z7 : Int,
(z7 = cmpO b c →
(((!(decide (cmpO b c = z7))) = true →
 (false, ()) = (true, ())) ∧
((!(decide (cmpO b c = z7))) = false →
(True ∧
∀ z10 : Int,
(z10 = cmpO a c →
(((!(decide (cmpO a c = z10))) = true →
 (false, ()) = (true, ())) ∧
((!(decide (cmpO a c = z10))) = false →
(True ∧
∀ z13 : Int,
(z13 = cmpO b a →
(((!(decide (z13 = (w64 (0 - cmpO a b))))) = true →
 (false, ()) = (true, ())) ∧
((!(decide (z13 = (w64 (0 - cmpO a b))))) = false →
(((!((decide (cmpO a b = 0)) == ((decide (a.R.xx = b.R.xx)) && ((decide (a.R.xy = b.R.xy)) && ((decide (a.R.xz = b.R.xz)) && ((decide (a.R.yx = b.R.yx)) && ((decide (a.R.yy = b.R.yy)) && ((decide (a.R.yz = b.R.yz)) && ((decide (a.R.zx = b.R.zx)) && ((decide (a.R.zy = b.R.zy)) && ((decide (a.R.zz = b.R.zz)) && ((decide (a.T.x = b.T.x)) && ((decide (a.T.y = b.T.y)) && ((decide (a.T.z = b.T.z)) && true)))))))))))))) = true →
 (false, ()) = (true, ())) ∧
((!((decide (cmpO a b = 0)) == ((decide (a.R.xx = b.R.xx)) && ((decide (a.R.xy = b.R.xy)) && ((decide (a.R.xz = b.R.xz)) && ((decide (a.R.yx = b.R.yx)) && ((decide (a.R.yy = b.R.yy)) && ((decide (a.R.yz = b.R.yz)) && ((decide (a.R.zx = b.R.zx)) && ((decide (a.R.zy = b.R.zy)) && ((decide (a.R.zz = b.R.zz)) && ((decide (a.T.x = b.T.x)) && ((decide (a.T.y = b.T.y)) && ((decide (a.T.z = b.T.z)) && true)))))))))))))) = false →
(((decide (0 < cmpO a b)) = true →
 (true, ()) = (true, ())) ∧
((decide (0 < cmpO a b)) = false →
(((decide (0 < cmpO b c)) = true →
 (true, ()) = (true, ())) ∧
((decide (0 < cmpO b c)) = false →
((decide (cmpO a c ≤ 0)), ()) = (true, ())))))))))))))))))))))))))))))
theorem r_OpCompares (x : HL C_OpCompares.args) : runs (env [(12, C_awake3), (27, C_opCompare.hid), (28, C_r3Compare.hid)] []) 400 7 C_OpCompares x = T_OpCompares x.1 x.2.1 x.2.2.1 := by kernel_rfl
theorem p_OpCompares (a : Op3) (b : Op3) (c : Op3) (h0 : (Sh.agg .op).okA a) (h1 : (Sh.agg .op).okA b) (h2 : (Sh.agg .op).okA c) : T_OpCompares a b c := by
  have hc : ∀ a b : Op3, ((decide (a.R.xx = b.R.xx)) && ((decide (a.R.xy = b.R.xy)) && ((decide (a.R.xz = b.R.xz)) && ((decide (a.R.yx = b.R.yx)) && ((decide (a.R.yy = b.R.yy)) && ((decide (a.R.yz = b.R.yz)) && ((decide (a.R.zx = b.R.zx)) && ((decide (a.R.zy = b.R.zy)) && ((decide (a.R.zz = b.R.zz)) && ((decide (a.T.x = b.T.x)) && ((decide (a.T.y = b.T.y)) && ((decide (a.T.z = b.T.z)) && true)))))))))))) = decide (cmpO a b = 0) := fun a b => by
    rw [Bool.eq_iff_iff]
    simp only [Bool.and_eq_true, decide_eq_true_eq, and_true]
    rw [cmpO_zero]
    constructor
    · rintro ⟨h1, h2, h3, h4, h5, h6, h7, h8, h9, h10, h11, h12⟩
      exact opRow_inj (by simp only [Op3.row, h1, h2, h3, h4, h5, h6, h7, h8, h9, h10, h11, h12])
    · rintro rfl
      exact ⟨rfl, rfl, rfl, rfl, rfl, rfl, rfl, rfl, rfl, rfl, rfl, rfl⟩
  have r1 := cmpO_range a b
  have r2 := cmpO_range b c
  have r3 := cmpO_range a c
  obtain ⟨t1, t2, t3⟩ := cmpO_trans a b c
  have hw : w64 (0 - cmpO a b) = cmpO b a := by rw [cmpO_anti a b, w64_id (by omega) (by omega)]; omega
  unfold T_OpCompares
  simp only [hc, hw, forall_eq]
  clear h0 h1 h2 hc hw
  generalize cmpO b a = w
  generalize cmpO a b = x at *
  generalize cmpO b c = y at *
  generalize cmpO a c = z at *
  simp only [decide_true, decide_eq_true_eq, decide_eq_false_iff_not, beq_self_eq_true, Bool.not_true, Bool.not_not, reduceCtorEq, false_implies, true_and, and_true, forall_const, Prod.mk.injEq, implies_true]
  omega
theorem s_OpCompares : Sound Try.prog 7 C_OpCompares :=
  sound_of_eq (env_ok (.cons s_awake3 (.cons s_opCompare.hid (.cons s_r3Compare.hid (.nil))))) (fun x => T_OpCompares x.1 x.2.1 x.2.2.1) r_OpCompares fun x ok hp => p_OpCompares x.1 x.2.1 x.2.2.1 ok.1 ok.2.1 ok.2.2.1
end Go.Fx
