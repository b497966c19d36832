/-
  The laws of products, in Lean.
-/
import Derived.Test.YtgnidjcidocpkaaX
namespace Go.Fx
open Go

theorem vl_det (a b : M3) : detZ (mulZ a b) = detZ a * detZ b := by
  simp only [detZ, mulZ]; grind
theorem vl_app (a b : M3) (v : V3) : appZ (mulZ a b) v = appZ a (appZ b v) := by
  simp only [appZ, mulZ, V3.mk.injEq]
  refine ⟨?_, ?_, ?_⟩ <;> grind
theorem vl_tra (a b : M3) : mulZ (traZ b) (traZ a) = traZ (mulZ a b) := by
  simp only [traZ, mulZ, M3.mk.injEq]
  refine ⟨?_, ?_, ?_, ?_, ?_, ?_, ?_, ?_, ?_⟩ <;> grind
theorem vl_traB {k : Int} {m : M3} (h : Bnd k m) : Bnd k (traZ m) := ⟨h.xx, h.yx, h.zx, h.xy, h.yy, h.zy, h.xz, h.yz, h.zz⟩
def vlB (k : Int) (v : V3) : Prop := (-k ≤ v.x ∧ v.x ≤ k) ∧ (-k ≤ v.y ∧ v.y ≤ k) ∧ (-k ≤ v.z ∧ v.z ≤ k)
theorem vl_appB {k l : Int} {m : M3} {v : V3} (hm : Bnd k m) (hv : vlB l v) : vlB (3 * (k * l)) (appZ m v) :=
  ⟨dotB k l hm.xx hm.xy hm.xz hv.1 hv.2.1 hv.2.2, dotB k l hm.yx hm.yy hm.yz hv.1 hv.2.1 hv.2.2, dotB k l hm.zx hm.zy hm.zz hv.1 hv.2.1 hv.2.2⟩
theorem vl_wV {k : Int} {v : V3} (hk : k ≤ 9223372036854775807) (h : vlB k v) : wV v = v := by
  obtain ⟨h1, h2, h3⟩ := h
  unfold wV
  rw [w64_id (by omega) (by omega), w64_id (by omega) (by omega), w64_id (by omega) (by omega)]
theorem vl_errV {k : Int} {v : V3} (hk : k ≤ 2147483648) (h : vlB k v) : errV v = 0 := by
  obtain ⟨h1, h2, h3⟩ := h
  unfold errV
  rw [if_pos]
  simp only [okC, inE, Bool.and_eq_true, decide_eq_true_eq]
  omega
theorem vl_mod (x : Int) : -999 ≤ Int.tmod x 1000 ∧ Int.tmod x 1000 ≤ 999 := tmod_B (k := 999) (by decide)
theorem vl_dot (M : M3) (x y z : Int) (v : V3) : w64 (w64 (w64 (x * (appZ M v).x) + w64 (y * (appZ M v).y)) + w64 (z * (appZ M v).z)) =
    w64 (w64 (w64 ((appZ (traZ M) (V3.mk x y z)).x * v.x) + w64 ((appZ (traZ M) (V3.mk x y z)).y * v.y)) + w64 ((appZ (traZ M) (V3.mk x y z)).z * v.z)) := by
  simp only [w64_add_l, w64_add_r, w64_mul_l, w64_mul_r, w64_w64, appZ, traZ]
  congr 1; grind
end Go.Fx
