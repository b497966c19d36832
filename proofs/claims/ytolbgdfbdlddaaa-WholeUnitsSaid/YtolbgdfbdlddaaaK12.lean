/-
  Contracts: r10Move.
-/
import Derived.Test.YtolbgdfbdlddaaaK11
namespace Go.Fx
open Go Go.Proofs
set_option maxRecDepth 100000
set_option linter.unusedVariables false
set_option linter.unusedSimpArgs false
set_option linter.unusedSectionVars false
noncomputable def C_r10Move : Contract := { args := [.agg .op, .agg .vec, .agg .vec], res := [.agg .vec], pre := fun x => movP x.1 x.2.1 x.2.2.1, F := fun x => ((movV x.1 x.2.1 x.2.2.1 : V3), ()) }
def T_r10Move (o : Op3) (n : V3) (a : V3) : Prop :=
  ((n.x ≠ 0) ∧
((n.y ≠ 0) ∧
((n.z ≠ 0) ∧
(inM2 ((w64 (((w64 (((w64 (n.x * n.y)) * n.z))) * 24)))) ∧
((n.x ≠ 0) ∧
(((w64 ((Int.tdiv ((w64 (((w64 (((w64 (n.x * n.y)) * n.z))) * 24)))) n.x))) ≠ 0) ∧
((n.x ≠ 0) ∧
((n.y ≠ 0) ∧
((n.z ≠ 0) ∧
(inM2 ((w64 (((w64 (((w64 (n.x * n.y)) * n.z))) * 24)))) ∧
((n.y ≠ 0) ∧
(((w64 ((Int.tdiv ((w64 (((w64 (((w64 (n.x * n.y)) * n.z))) * 24)))) n.y))) ≠ 0) ∧
((n.x ≠ 0) ∧
((n.y ≠ 0) ∧
((n.z ≠ 0) ∧
(inM2 ((w64 (((w64 (((w64 (n.x * n.y)) * n.z))) * 24)))) ∧
((n.z ≠ 0) ∧
(((w64 ((Int.tdiv ((w64 (((w64 (((w64 (n.x * n.y)) * n.z))) * 24)))) n.z))) ≠ 0) ∧
((V3.mk ((w64 ((Int.tdiv (emo ((w64 (((w64 (((w64 (((w64 ((o.T.x * (Int.tdiv ((w64 (((w64 (((w64 (n.x * n.y)) * n.z))) * 24)))) 24)))) + (w64 (((w64 (o.R.xx * a.x)) * (w64 ((Int.tdiv ((w64 (((w64 (((w64 (n.x * n.y)) * n.z))) * 24)))) n.x))))))))) + (w64 (((w64 (o.R.xy * a.y)) * (w64 ((Int.tdiv ((w64 (((w64 (((w64 (n.x * n.y)) * n.z))) * 24)))) n.y))))))))) + (w64 (((w64 (o.R.xz * a.z)) * (w64 ((Int.tdiv ((w64 (((w64 (((w64 (n.x * n.y)) * n.z))) * 24)))) n.z)))))))))) ((w64 (((w64 (((w64 (n.x * n.y)) * n.z))) * 24))))) ((w64 ((Int.tdiv ((w64 (((w64 (((w64 (n.x * n.y)) * n.z))) * 24)))) n.x)))))))) ((w64 ((Int.tdiv (emo ((w64 (((w64 (((w64 (((w64 ((o.T.y * (Int.tdiv ((w64 (((w64 (((w64 (n.x * n.y)) * n.z))) * 24)))) 24)))) + (w64 (((w64 (o.R.yx * a.x)) * (w64 ((Int.tdiv ((w64 (((w64 (((w64 (n.x * n.y)) * n.z))) * 24)))) n.x))))))))) + (w64 (((w64 (o.R.yy * a.y)) * (w64 ((Int.tdiv ((w64 (((w64 (((w64 (n.x * n.y)) * n.z))) * 24)))) n.y))))))))) + (w64 (((w64 (o.R.yz * a.z)) * (w64 ((Int.tdiv ((w64 (((w64 (((w64 (n.x * n.y)) * n.z))) * 24)))) n.z)))))))))) ((w64 (((w64 (((w64 (n.x * n.y)) * n.z))) * 24))))) ((w64 ((Int.tdiv ((w64 (((w64 (((w64 (n.x * n.y)) * n.z))) * 24)))) n.y)))))))) ((w64 ((Int.tdiv (emo ((w64 (((w64 (((w64 (((w64 ((o.T.z * (Int.tdiv ((w64 (((w64 (((w64 (n.x * n.y)) * n.z))) * 24)))) 24)))) + (w64 (((w64 (o.R.zx * a.x)) * (w64 ((Int.tdiv ((w64 (((w64 (((w64 (n.x * n.y)) * n.z))) * 24)))) n.x))))))))) + (w64 (((w64 (o.R.zy * a.y)) * (w64 ((Int.tdiv ((w64 (((w64 (((w64 (n.x * n.y)) * n.z))) * 24)))) n.y))))))))) + (w64 (((w64 (o.R.zz * a.z)) * (w64 ((Int.tdiv ((w64 (((w64 (((w64 (n.x * n.y)) * n.z))) * 24)))) n.z)))))))))) ((w64 (((w64 (((w64 (n.x * n.y)) * n.z))) * 24))))) ((w64 ((Int.tdiv ((w64 (((w64 (((w64 (n.x * n.y)) * n.z))) * 24)))) n.z))))))))), ()) = (movV o n a, ())))))))))))))))))))
theorem r_r10Move (x : HL C_r10Move.args) : runs (env0 [(34, C_r3Mod.hid)] [] []) 1500 53 C_r10Move x = T_r10Move x.1 x.2.1 x.2.2.1 := by kernel_rfl
theorem p_r10Move (o : Op3) (n : V3) (a : V3) (h0 : (Sh.agg .op).okA o) (h1 : (Sh.agg .vec).okA n) (h2 : (Sh.agg .vec).okA a) (hp : movP o n a) : T_r10Move o n a := by
  obtain ⟨hF, hn, hf, ha⟩ := hp
  have hs := sid_ok hn
  have hT := inT_iff.1 hF.T
  have hft := (fit_iff hF hs).1 hf
  obtain ⟨a1, a2, a3⟩ := inG_iff.1 ha
  obtain ⟨w1, w2, w3, w4, w5⟩ := all_parts hn
  have hup := up_mov hs hft a
  obtain ⟨x0, x1, y0, y1, z0, z1, hpr⟩ := hs
  have nx : n.x ≠ 0 := by omega
  have ny : n.y ≠ 0 := by omega
  have nz : n.z ≠ 0 := by omega
  have kk : ∀ u v : Int, 1 ≤ u → u ≤ 192 → 1 ≤ v → v ≤ 192 → 0 < u * v * 24 ∧ u * v * 24 ≤ 884736 := fun u v u0 u1 v0 v1 => by
    have h1 : 1 ≤ u * v := Int.mul_pos (by omega) (by omega)
    have h2 : u * v ≤ 192 * 192 := Int.le_trans (Int.mul_le_mul_of_nonneg_right u1 (by omega)) (Int.mul_le_mul_of_nonneg_left v1 (by omega))
    omega
  obtain ⟨p1, p2⟩ := kk n.y n.z y0 y1 z0 z1
  obtain ⟨p3, p4⟩ := kk n.x n.z x0 x1 z0 z1
  obtain ⟨p5, p6⟩ := kk n.x n.y x0 x1 y0 y1
  have P0 : 0 ≤ n.x * n.y * n.z := Int.mul_nonneg (Int.mul_nonneg (by omega) (by omega)) (by omega)
  have P1 : 1 ≤ n.x * n.y * n.z := Int.mul_pos (Int.mul_pos (by omega) (by omega)) (by omega)
  have e1 : allG n = n.x * (n.y * n.z * 24) := by unfold allG; rw [Int.mul_assoc n.x, Int.mul_assoc n.x]
  have e2 : allG n = n.y * (n.x * n.z * 24) := by unfold allG; rw [Int.mul_comm n.x n.y, Int.mul_assoc n.y, Int.mul_assoc n.y]
  have e3 : allG n = n.z * (n.x * n.y * 24) := by unfold allG; rw [Int.mul_comm (n.x * n.y) n.z, Int.mul_assoc n.z]
  have hA : inM2 (allG n) := by unfold inM2 allG; omega
  unfold T_r10Move emo
  rw [w1, w2, w3, w4, w5, w64_id (x := n.y * n.z * 24) (by omega) (by omega), w64_id (x := n.x * n.z * 24) (by omega) (by omega), w64_id (x := n.x * n.y * 24) (by omega) (by omega)]
  rw [doc_v (by omega) (by omega) P0 hpr hF.B.xx hF.B.xy hF.B.xz ⟨a1.1, by omega⟩ ⟨a2.1, by omega⟩ ⟨a3.1, by omega⟩ ⟨by omega, by omega⟩ ⟨by omega, by omega⟩ ⟨by omega, by omega⟩ p1 x0 x1 e1 (congrArg V3.x hup),
    doc_v (by omega) (by omega) P0 hpr hF.B.yx hF.B.yy hF.B.yz ⟨a1.1, by omega⟩ ⟨a2.1, by omega⟩ ⟨a3.1, by omega⟩ ⟨by omega, by omega⟩ ⟨by omega, by omega⟩ ⟨by omega, by omega⟩ p3 y0 y1 e2 (congrArg V3.y hup),
    doc_v (by omega) (by omega) P0 hpr hF.B.zx hF.B.zy hF.B.zz ⟨a1.1, by omega⟩ ⟨a2.1, by omega⟩ ⟨a3.1, by omega⟩ ⟨by omega, by omega⟩ ⟨by omega, by omega⟩ ⟨by omega, by omega⟩ p5 z0 z1 e3 (congrArg V3.z hup)]
  exact ⟨nx, ny, nz, hA, nx, by omega, nx, ny, nz, hA, ny, by omega, nx, ny, nz, hA, nz, by omega, rfl⟩
theorem s_r10Move : Sound Try.prog 53 C_r10Move :=
  sound_of_eq (env0_ok (.cons s_r3Mod.hid (.nil))) (fun x => T_r10Move x.1 x.2.1 x.2.2.1) r_r10Move fun x ok hp => p_r10Move x.1 x.2.1 x.2.2.1 ok.1 ok.2.1 ok.2.2.1 hp
end Go.Fx
