/-
  Contracts: umove.
-/
import Derived.Test.YtolbgdfbdlddaaaK9
namespace Go.Fx
open Go Go.Proofs
set_option maxRecDepth 100000
set_option linter.unusedVariables false
set_option linter.unusedSimpArgs false
set_option linter.unusedSectionVars false
noncomputable def C_umove : Contract := { args := [.agg .op, .agg .vec, .agg .vec], res := [.agg .vec], pre := fun x => movP x.1 x.2.1 x.2.2.1, F := fun x => ((movV x.1 x.2.1 x.2.2.1 : V3), ()) }
def T_umove (o : Op3) (n : V3) (a : V3) : Prop :=
  ((n.x ≠ 0) ∧
((n.y ≠ 0) ∧
((n.z ≠ 0) ∧
((n.x ≠ 0) ∧
((n.x ≠ 0) ∧
((n.x ≠ 0) ∧
((n.y ≠ 0) ∧
((n.z ≠ 0) ∧
((n.y ≠ 0) ∧
((n.y ≠ 0) ∧
((n.x ≠ 0) ∧
((n.y ≠ 0) ∧
((n.z ≠ 0) ∧
((n.z ≠ 0) ∧
((n.z ≠ 0) ∧
((V3.mk ((Int.tmod ((w64 (((Int.tmod ((w64 (((w64 (((w64 (((Int.tdiv ((w64 (o.T.x * n.x))) 24) + (w64 (((w64 ((Int.tdiv ((w64 (o.R.xx * n.x))) n.x))) * a.x)))))) + (w64 (((w64 ((Int.tdiv ((w64 (o.R.xy * n.x))) n.y))) * a.y)))))) + (w64 (((w64 ((Int.tdiv ((w64 (o.R.xz * n.x))) n.z))) * a.z))))))) n.x) + n.x)))) n.x)) ((Int.tmod ((w64 (((Int.tmod ((w64 (((w64 (((w64 (((Int.tdiv ((w64 (o.T.y * n.y))) 24) + (w64 (((w64 ((Int.tdiv ((w64 (o.R.yx * n.y))) n.x))) * a.x)))))) + (w64 (((w64 ((Int.tdiv ((w64 (o.R.yy * n.y))) n.y))) * a.y)))))) + (w64 (((w64 ((Int.tdiv ((w64 (o.R.yz * n.y))) n.z))) * a.z))))))) n.y) + n.y)))) n.y)) ((Int.tmod ((w64 (((Int.tmod ((w64 (((w64 (((w64 (((Int.tdiv ((w64 (o.T.z * n.z))) 24) + (w64 (((w64 ((Int.tdiv ((w64 (o.R.zx * n.z))) n.x))) * a.x)))))) + (w64 (((w64 ((Int.tdiv ((w64 (o.R.zy * n.z))) n.y))) * a.y)))))) + (w64 (((w64 ((Int.tdiv ((w64 (o.R.zz * n.z))) n.z))) * a.z))))))) n.z) + n.z)))) n.z))), ()) = (movV o n a, ()))))))))))))))))
theorem r_umove (x : HL C_umove.args) : runs (env0 [] [] []) 1500 51 C_umove x = T_umove x.1 x.2.1 x.2.2.1 := by kernel_rfl
theorem p_umove (o : Op3) (n : V3) (a : V3) (h0 : (Sh.agg .op).okA o) (h1 : (Sh.agg .vec).okA n) (h2 : (Sh.agg .vec).okA a) (hp : movP o n a) : T_umove o n a := by
  obtain ⟨hF, hn, hf, ha⟩ := hp
  have hs := sid_ok hn
  have hT := inT_iff.1 hF.T
  have hft := (fit_iff hF hs).1 hf
  obtain ⟨a1, a2, a3⟩ := inG_iff.1 ha
  obtain ⟨x0, x1, y0, y1, z0, z1, _⟩ := hs
  have nx : n.x ≠ 0 := by omega
  have ny : n.y ≠ 0 := by omega
  have nz : n.z ≠ 0 := by omega
  unfold T_umove
  rw [umv (by omega) (by omega) x0 x1 hF.B.xx hF.B.xy hF.B.xz x0 y0 z0 hft.xx hft.xy hft.xz ⟨a1.1, by omega⟩ ⟨a2.1, by omega⟩ ⟨a3.1, by omega⟩,
    umv (by omega) (by omega) y0 y1 hF.B.yx hF.B.yy hF.B.yz x0 y0 z0 hft.yx hft.yy hft.yz ⟨a1.1, by omega⟩ ⟨a2.1, by omega⟩ ⟨a3.1, by omega⟩,
    umv (by omega) (by omega) z0 z1 hF.B.zx hF.B.zy hF.B.zz x0 y0 z0 hft.zx hft.zy hft.zz ⟨a1.1, by omega⟩ ⟨a2.1, by omega⟩ ⟨a3.1, by omega⟩]
  exact ⟨nx, ny, nz, nx, nx, nx, ny, nz, ny, ny, nx, ny, nz, nz, nz, rfl⟩
theorem s_umove : Sound Try.prog 51 C_umove :=
  sound_of_eq (env0_ok (.nil)) (fun x => T_umove x.1 x.2.1 x.2.2.1) r_umove fun x ok hp => p_umove x.1 x.2.1 x.2.2.1 ok.1 ok.2.1 ok.2.2.1 hp
end Go.Fx
