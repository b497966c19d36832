/-
  Layer 7: phases stay.
-/
import Derived.Test.YthoicknhjjlnjaaGreatBh
namespace Go.Fx
open Go

def dotV (h v : V3) : Int := h.x * v.x + h.y * v.y + h.z * v.z
theorem dot_app (h : V3) (m : M3) (v : V3) : dotV (appZ (traZ m) h) v = dotV h (appZ m v) := by
  simp only [dotV, appZ, traZ]; grind
theorem dot_inv {m : M3} (hd : detZ m = 1 ∨ detZ m = -1) (h v : V3) : dotV (appZ (traZ (invZ m)) h) (appZ m v) = dotV h v := by
  rw [dot_app, ← app_mul, inv_l hd, app_one]
theorem ph_alg {M a1 a2 a3 x1 x2 x3 k1 k2 k3 y1 y2 y3 s1 s2 s3 t1 t2 t3 : Int} (h : k1 * y1 + k2 * y2 + k3 * y3 = a1 * x1 + a2 * x2 + a3 * x3) :
    M ∣ (a1 * x1 + a2 * x2 + a3 * x3) - ((k1 + M * s1) * (y1 + M * t1) + (k2 + M * s2) * (y2 + M * t2) + (k3 + M * s3) * (y3 + M * t3)) :=
  ⟨-(k1 * t1 + s1 * y1 + M * s1 * t1 + (k2 * t2 + s2 * y2 + M * s2 * t2) + (k3 * t3 + s3 * y3 + M * s3 * t3)), by rw [← h]; grind⟩
theorem tmod_wit (k M : Int) : ∃ s, Int.tmod k M = k + M * s := ⟨-(Int.tdiv k M), by have := Int.tmod_add_tdiv_mul k M; grind⟩
theorem emod_wit {x y M : Int} (h : x % M = y % M) : ∃ s, x = y + M * s := by
  refine ⟨x / M - y / M, ?_⟩
  have h1 := Int.emod_add_mul_ediv x M
  have h2 := Int.emod_add_mul_ediv y M
  rw [Int.mul_sub]; omega
theorem org24 {M : Int} (h : M = 24 ∨ M = 48 ∨ M = 96 ∨ M = 192) (y o : Int) : ((y + M / 24 * o) % M - (Int.tmod o 24 + 24) % 24 * Int.tdiv M 24) % M = y % M ∧ -192 ≤ (y + M / 24 * o) % M - (Int.tmod o 24 + 24) % 24 * Int.tdiv M 24 ∧ (y + M / 24 * o) % M - (Int.tmod o 24 + 24) % 24 * Int.tdiv M 24 ≤ 192 := by
  have e : (Int.tmod o 24 + 24) % 24 = o % 24 := by have := tmod_emod o 24; omega
  rw [e]
  rcases h with rfl | rfl | rfl | rfl
  · rw [show Int.tdiv 24 24 = 1 by decide, show (24 : Int) / 24 = 1 by decide]; omega
  · rw [show Int.tdiv 48 24 = 2 by decide, show (48 : Int) / 24 = 2 by decide]; omega
  · rw [show Int.tdiv 96 24 = 4 by decide, show (96 : Int) / 24 = 4 by decide]; omega
  · rw [show Int.tdiv 192 24 = 8 by decide, show (192 : Int) / 24 = 8 by decide]; omega
theorem phase {c : Chg} {h : V3} {p : Pt} (hI : idxE c h = 0) (hP : pntE c p = 0) :
    Int.tmod (w64 (w64 (w64 (0 + w64 (h.x * p.X.x) + w64 (h.y * p.X.y)) + w64 (h.z * p.X.z)) - w64 (w64 (0 + w64 (Int.tmod (idxV c h).x p.M * w64 ((pntP c p).X.x - (Int.tmod c.O.x 24 + 24) % 24 * Int.tdiv p.M 24)) + w64 (Int.tmod (idxV c h).y p.M * w64 ((pntP c p).X.y - (Int.tmod c.O.y 24 + 24) % 24 * Int.tdiv p.M 24))) + w64 (Int.tmod (idxV c h).z p.M * w64 ((pntP c p).X.z - (Int.tmod c.O.z 24 + 24) % 24 * Int.tdiv p.M 24))))) p.M = 0 := by
  obtain ⟨hu, hf, hq⟩ := pnt_zero hP
  obtain ⟨hM, hx, hy, hz⟩ := frmP_iff.1 hf
  have hok : okH h = true := by unfold idxE at hI; split at hI; assumption; exact absurd hI (by decide)
  obtain ⟨hb, _, hd⟩ := uniE_ok hu
  obtain ⟨i1, i2⟩ := invW_id hu
  have hh : BndV 512 h := by
    simp only [okH, inE, Bool.and_eq_true, decide_eq_true_eq] at hok
    exact ⟨by omega, by omega, by omega⟩
  have hk : idxV c h = appZ (traZ (invZ c.P)) h := by
    unfold idxV; rw [if_pos hI, i1]
    exact wV_id (by decide) (appB (k := 2000000) ⟨i2.xx, i2.yx, i2.zx, i2.xy, i2.yy, i2.zy, i2.xz, i2.yz, i2.zz⟩ hh)
  have hdot := dot_inv hd h p.X
  rw [← hk] at hdot
  generalize idxV c h = k at hdot ⊢
  have q1 : (pntP c p).X.x = ((appZ c.P p.X).x + p.M / 24 * c.O.x) % p.M := by rw [hq]; rfl
  have q2 : (pntP c p).X.y = ((appZ c.P p.X).y + p.M / 24 * c.O.y) % p.M := by rw [hq]; rfl
  have q3 : (pntP c p).X.z = ((appZ c.P p.X).z + p.M / 24 * c.O.z) % p.M := by rw [hq]; rfl
  rw [q1, q2, q3]
  generalize appZ c.P p.X = y at hdot ⊢
  obtain ⟨o1, b1⟩ := org24 hM y.x c.O.x
  obtain ⟨o2, b2⟩ := org24 hM y.y c.O.y
  obtain ⟨o3, b3⟩ := org24 hM y.z c.O.z
  generalize (y.x + p.M / 24 * c.O.x) % p.M - (Int.tmod c.O.x 24 + 24) % 24 * Int.tdiv p.M 24 = d1 at o1 b1 ⊢
  generalize (y.y + p.M / 24 * c.O.y) % p.M - (Int.tmod c.O.y 24 + 24) % 24 * Int.tdiv p.M 24 = d2 at o2 b2 ⊢
  generalize (y.z + p.M / 24 * c.O.z) % p.M - (Int.tmod c.O.z 24 + 24) % 24 * Int.tdiv p.M 24 = d3 at o3 b3 ⊢
  have hA : ∀ a : Int, -192 ≤ Int.tmod a p.M ∧ Int.tmod a p.M ≤ 192 := fun a => by
    rcases hM with e | e | e | e <;> rw [e]
    · obtain ⟨u1, u2⟩ : -23 ≤ Int.tmod a 24 ∧ Int.tmod a 24 ≤ 23 := tmod_B (k := 23) (x := a) (by decide)
      exact ⟨by omega, by omega⟩
    · obtain ⟨u1, u2⟩ : -47 ≤ Int.tmod a 48 ∧ Int.tmod a 48 ≤ 47 := tmod_B (k := 47) (x := a) (by decide)
      exact ⟨by omega, by omega⟩
    · obtain ⟨u1, u2⟩ : -95 ≤ Int.tmod a 96 ∧ Int.tmod a 96 ≤ 95 := tmod_B (k := 95) (x := a) (by decide)
      exact ⟨by omega, by omega⟩
    · obtain ⟨u1, u2⟩ : -191 ≤ Int.tmod a 192 ∧ Int.tmod a 192 ≤ 191 := tmod_B (k := 191) (x := a) (by decide)
      exact ⟨by omega, by omega⟩
  have hAD : ∀ a d : Int, -192 ≤ d ∧ d ≤ 192 → w64 (Int.tmod a p.M * w64 d) = Int.tmod a p.M * d ∧ -36864 ≤ Int.tmod a p.M * d ∧ Int.tmod a p.M * d ≤ 36864 := fun a d hd => by
    have h1 := mulB (a := Int.tmod a p.M) (b := d) 192 192 (hA a).1 (hA a).2 hd.1 hd.2
    rw [w64_id (x := d) (by omega) (by omega)]
    exact ⟨w64_id (by omega) (by omega), by omega, by omega⟩
  have hH : ∀ a x : Int, -512 ≤ a ∧ a ≤ 512 → 0 ≤ x ∧ x < p.M → w64 (a * x) = a * x ∧ -98304 ≤ a * x ∧ a * x ≤ 98304 := fun a x ha hx => by
    have h1 := mulB (a := a) (b := x) 512 192 ha.1 ha.2 (by omega) (by omega)
    exact ⟨w64_id (by omega) (by omega), by omega, by omega⟩
  obtain ⟨e1, f1⟩ := hH h.x p.X.x hh.1 hx
  obtain ⟨e2, f2⟩ := hH h.y p.X.y hh.2.1 hy
  obtain ⟨e3, f3⟩ := hH h.z p.X.z hh.2.2 hz
  obtain ⟨e4, f4⟩ := hAD k.x d1 b1
  obtain ⟨e5, f5⟩ := hAD k.y d2 b2
  obtain ⟨e6, f6⟩ := hAD k.z d3 b3
  rw [e1, e2, e3, e4, e5, e6]
  rw [w64_id (x := 0 + h.x * p.X.x + h.y * p.X.y) (by omega) (by omega), w64_id (x := 0 + Int.tmod k.x p.M * d1 + Int.tmod k.y p.M * d2) (by omega) (by omega)]
  rw [w64_id (x := 0 + h.x * p.X.x + h.y * p.X.y + h.z * p.X.z) (by omega) (by omega), w64_id (x := 0 + Int.tmod k.x p.M * d1 + Int.tmod k.y p.M * d2 + Int.tmod k.z p.M * d3) (by omega) (by omega)]
  rw [w64_id (by omega) (by omega)]
  obtain ⟨s1, g1⟩ := tmod_wit k.x p.M
  obtain ⟨s2, g2⟩ := tmod_wit k.y p.M
  obtain ⟨s3, g3⟩ := tmod_wit k.z p.M
  obtain ⟨t1, r1⟩ := emod_wit o1
  obtain ⟨t2, r2⟩ := emod_wit o2
  obtain ⟨t3, r3⟩ := emod_wit o3
  refine Int.tmod_eq_zero_of_dvd ?_
  rw [g1, g2, g3, r1, r2, r3, Int.zero_add, Int.zero_add]
  exact ph_alg hdot
end Go.Fx
