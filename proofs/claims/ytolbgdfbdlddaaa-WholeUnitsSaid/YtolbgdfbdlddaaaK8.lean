/-
  Contracts: ufits, r10Fits.
-/
import Derived.Test.YtolbgdfbdlddaaaK7
namespace Go.Fx
open Go Go.Proofs
set_option maxRecDepth 100000
set_option linter.unusedVariables false
set_option linter.unusedSimpArgs false
set_option linter.unusedSectionVars false
noncomputable def C_ufits : Contract := { args := [.agg .op, .agg .vec], res := [.bool], pre := fun x => sidP x.2.1, F := fun x => ((fitB x.1 x.2.1 : Bool), ()) }
def T_ufits (o : Op3) (n : V3) : Prop :=
  ((n.x ≠ 0) ∧
(((!(decide ((Int.tmod ((w64 (o.R.xx * n.x))) n.x) = 0))) = true →
 (false, ()) = (fitB o n, ())) ∧
((!(decide ((Int.tmod ((w64 (o.R.xx * n.x))) n.x) = 0))) = false →
((n.y ≠ 0) ∧
(((!(decide ((Int.tmod ((w64 (o.R.xy * n.x))) n.y) = 0))) = true →
 (false, ()) = (fitB o n, ())) ∧
((!(decide ((Int.tmod ((w64 (o.R.xy * n.x))) n.y) = 0))) = false →
((n.z ≠ 0) ∧
(((!(decide ((Int.tmod ((w64 (o.R.xz * n.x))) n.z) = 0))) = true →
 (false, ()) = (fitB o n, ())) ∧
((!(decide ((Int.tmod ((w64 (o.R.xz * n.x))) n.z) = 0))) = false →
(((!(decide ((Int.tmod ((w64 (o.T.x * n.x))) 24) = 0))) = true →
 (false, ()) = (fitB o n, ())) ∧
((!(decide ((Int.tmod ((w64 (o.T.x * n.x))) 24) = 0))) = false →
((n.x ≠ 0) ∧
(((!(decide ((Int.tmod ((w64 (o.R.yx * n.y))) n.x) = 0))) = true →
 (false, ()) = (fitB o n, ())) ∧
((!(decide ((Int.tmod ((w64 (o.R.yx * n.y))) n.x) = 0))) = false →
((n.y ≠ 0) ∧
(((!(decide ((Int.tmod ((w64 (o.R.yy * n.y))) n.y) = 0))) = true →
 (false, ()) = (fitB o n, ())) ∧
((!(decide ((Int.tmod ((w64 (o.R.yy * n.y))) n.y) = 0))) = false →
((n.z ≠ 0) ∧
(((!(decide ((Int.tmod ((w64 (o.R.yz * n.y))) n.z) = 0))) = true →
 (false, ()) = (fitB o n, ())) ∧
((!(decide ((Int.tmod ((w64 (o.R.yz * n.y))) n.z) = 0))) = false →
(((!(decide ((Int.tmod ((w64 (o.T.y * n.y))) 24) = 0))) = true →
 (false, ()) = (fitB o n, ())) ∧
((!(decide ((Int.tmod ((w64 (o.T.y * n.y))) 24) = 0))) = false →
((n.x ≠ 0) ∧
(((!(decide ((Int.tmod ((w64 (o.R.zx * n.z))) n.x) = 0))) = true →
 (false, ()) = (fitB o n, ())) ∧
((!(decide ((Int.tmod ((w64 (o.R.zx * n.z))) n.x) = 0))) = false →
((n.y ≠ 0) ∧
(((!(decide ((Int.tmod ((w64 (o.R.zy * n.z))) n.y) = 0))) = true →
 (false, ()) = (fitB o n, ())) ∧
((!(decide ((Int.tmod ((w64 (o.R.zy * n.z))) n.y) = 0))) = false →
((n.z ≠ 0) ∧
(((!(decide ((Int.tmod ((w64 (o.R.zz * n.z))) n.z) = 0))) = true →
 (false, ()) = (fitB o n, ())) ∧
((!(decide ((Int.tmod ((w64 (o.R.zz * n.z))) n.z) = 0))) = false →
(((!(decide ((Int.tmod ((w64 (o.T.z * n.z))) 24) = 0))) = true →
 (false, ()) = (fitB o n, ())) ∧
((!(decide ((Int.tmod ((w64 (o.T.z * n.z))) 24) = 0))) = false →
(true, ()) = (fitB o n, ()))))))))))))))))))))))))))))))))))
theorem r_ufits (x : HL C_ufits.args) : runs (env0 [] [] []) 1500 46 C_ufits x = T_ufits x.1 x.2.1 := by kernel_rfl
theorem p_ufits (o : Op3) (n : V3) (h0 : (Sh.agg .op).okA o) (h1 : (Sh.agg .vec).okA n) (hp : sidP n) : T_ufits o n := by
  have hs := sid_ok hp
  have nx : n.x ≠ 0 := by have := hs.x0; omega
  have ny : n.y ≠ 0 := by have := hs.y0; omega
  have nz : n.z ≠ 0 := by have := hs.z0; omega
  unfold T_ufits fitB fitX
  by_cases c1 : Int.tmod (w64 (o.R.xx * n.x)) n.x = 0 <;> simp only [c1, nx, ny, nz] <;> simp
  repeat' (first | apply And.intro | intro _ | assumption)
  all_goals simp_all
theorem s_ufits : Sound Try.prog 46 C_ufits :=
  sound_of_eq (env0_ok (.nil)) (fun x => T_ufits x.1 x.2.1) r_ufits fun x ok hp => p_ufits x.1 x.2.1 ok.1 ok.2.1 hp
noncomputable def C_r10Fits : Contract := { args := [.agg .op, .agg .vec], res := [.bool], pre := fun x => sidP x.2.1, F := fun x => ((fitB x.1 x.2.1 : Bool), ()) }
def T_r10Fits (o : Op3) (n : V3) : Prop :=
  ((n.x ≠ 0) ∧
(((!(decide ((Int.tmod ((w64 (o.R.xx * n.x))) n.x) = 0))) = true →
 (false, ()) = (fitB o n, ())) ∧
((!(decide ((Int.tmod ((w64 (o.R.xx * n.x))) n.x) = 0))) = false →
((n.y ≠ 0) ∧
(((!(decide ((Int.tmod ((w64 (o.R.xy * n.x))) n.y) = 0))) = true →
 (false, ()) = (fitB o n, ())) ∧
((!(decide ((Int.tmod ((w64 (o.R.xy * n.x))) n.y) = 0))) = false →
((n.z ≠ 0) ∧
(((!(decide ((Int.tmod ((w64 (o.R.xz * n.x))) n.z) = 0))) = true →
 (false, ()) = (fitB o n, ())) ∧
((!(decide ((Int.tmod ((w64 (o.R.xz * n.x))) n.z) = 0))) = false →
(((!(decide ((Int.tmod ((w64 (o.T.x * n.x))) 24) = 0))) = true →
 (false, ()) = (fitB o n, ())) ∧
((!(decide ((Int.tmod ((w64 (o.T.x * n.x))) 24) = 0))) = false →
((n.x ≠ 0) ∧
(((!(decide ((Int.tmod ((w64 (o.R.yx * n.y))) n.x) = 0))) = true →
 (false, ()) = (fitB o n, ())) ∧
((!(decide ((Int.tmod ((w64 (o.R.yx * n.y))) n.x) = 0))) = false →
((n.y ≠ 0) ∧
(((!(decide ((Int.tmod ((w64 (o.R.yy * n.y))) n.y) = 0))) = true →
 (false, ()) = (fitB o n, ())) ∧
((!(decide ((Int.tmod ((w64 (o.R.yy * n.y))) n.y) = 0))) = false →
((n.z ≠ 0) ∧
(((!(decide ((Int.tmod ((w64 (o.R.yz * n.y))) n.z) = 0))) = true →
 (false, ()) = (fitB o n, ())) ∧
((!(decide ((Int.tmod ((w64 (o.R.yz * n.y))) n.z) = 0))) = false →
(((!(decide ((Int.tmod ((w64 (o.T.y * n.y))) 24) = 0))) = true →
 (false, ()) = (fitB o n, ())) ∧
((!(decide ((Int.tmod ((w64 (o.T.y * n.y))) 24) = 0))) = false →
((n.x ≠ 0) ∧
(((!(decide ((Int.tmod ((w64 (o.R.zx * n.z))) n.x) = 0))) = true →
 (false, ()) = (fitB o n, ())) ∧
((!(decide ((Int.tmod ((w64 (o.R.zx * n.z))) n.x) = 0))) = false →
((n.y ≠ 0) ∧
(((!(decide ((Int.tmod ((w64 (o.R.zy * n.z))) n.y) = 0))) = true →
 (false, ()) = (fitB o n, ())) ∧
((!(decide ((Int.tmod ((w64 (o.R.zy * n.z))) n.y) = 0))) = false →
((n.z ≠ 0) ∧
(((!(decide ((Int.tmod ((w64 (o.R.zz * n.z))) n.z) = 0))) = true →
 (false, ()) = (fitB o n, ())) ∧
((!(decide ((Int.tmod ((w64 (o.R.zz * n.z))) n.z) = 0))) = false →
(((!(decide ((Int.tmod ((w64 (o.T.z * n.z))) 24) = 0))) = true →
 (false, ()) = (fitB o n, ())) ∧
((!(decide ((Int.tmod ((w64 (o.T.z * n.z))) 24) = 0))) = false →
(true, ()) = (fitB o n, ()))))))))))))))))))))))))))))))))))
theorem r_r10Fits (x : HL C_r10Fits.args) : runs (env0 [] [] []) 1500 50 C_r10Fits x = T_r10Fits x.1 x.2.1 := by kernel_rfl
theorem p_r10Fits (o : Op3) (n : V3) (h0 : (Sh.agg .op).okA o) (h1 : (Sh.agg .vec).okA n) (hp : sidP n) : T_r10Fits o n := by
  have hs := sid_ok hp
  have nx : n.x ≠ 0 := by have := hs.x0; omega
  have ny : n.y ≠ 0 := by have := hs.y0; omega
  have nz : n.z ≠ 0 := by have := hs.z0; omega
  unfold T_r10Fits fitB fitX
  by_cases c1 : Int.tmod (w64 (o.R.xx * n.x)) n.x = 0 <;> simp only [c1, nx, ny, nz] <;> simp
  repeat' (first | apply And.intro | intro _ | assumption)
  all_goals simp_all
theorem s_r10Fits : Sound Try.prog 50 C_r10Fits :=
  sound_of_eq (env0_ok (.nil)) (fun x => T_r10Fits x.1 x.2.1) r_r10Fits fun x ok hp => p_r10Fits x.1 x.2.1 ok.1 ok.2.1 hp
end Go.Fx
