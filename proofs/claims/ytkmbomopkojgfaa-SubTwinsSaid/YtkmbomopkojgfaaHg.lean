/-
  Powers that stay small: a whole-number matrix whose squares, squared again and again, stay bounded has an order.
-/
import Derived.Test.YtkmbomopkojgfaaHd
import Derived.Test.YtkmbomopkojgfaaKs
set_option linter.unusedSimpArgs false
set_option linter.unusedVariables false
set_option linter.unusedSectionVars false
namespace Go.Fx
open Go
def sqN : Nat → M3 → M3
  | 0, m => m
  | k + 1, m => mulZ (sqN k m) (sqN k m)
theorem m3_ext {a b : M3} (h1 : a.xx = b.xx) (h2 : a.xy = b.xy) (h3 : a.xz = b.xz) (h4 : a.yx = b.yx) (h5 : a.yy = b.yy) (h6 : a.yz = b.yz) (h7 : a.zx = b.zx) (h8 : a.zy = b.zy) (h9 : a.zz = b.zz) : a = b := by
  cases a; cases b; simp_all
theorem sq_t (m : M3) : trcZ (mulZ m m) = trcZ m * trcZ m - 2 * sZ m := by
  simp only [trcZ, mulZ, sZ, adjZ]; grind
theorem sq_s (m : M3) : sZ (mulZ m m) = sZ m * sZ m - 2 * (detZ m * trcZ m) := by
  simp only [trcZ, mulZ, sZ, adjZ, detZ]; grind
theorem sq_d (m : M3) : detZ (mulZ m m) = detZ m * detZ m := by
  simp only [mulZ, detZ]; grind
/-- Bounds of products. -/
theorem mul_bnd {a b : Int} (h1 : -1000 ≤ a ∧ a ≤ 1000) (h2 : -1000 ≤ b ∧ b ≤ 1000) : -3000000 ≤ a * b ∧ a * b ≤ 3000000 := by
  have := dotB (a := a) (b := 0) (c := 0) (x := b) (y := 0) (z := 0) 1000 1000 h1 ⟨by omega, by omega⟩ ⟨by omega, by omega⟩ h2 ⟨by omega, by omega⟩ ⟨by omega, by omega⟩
  simp only [Int.zero_mul, Int.add_zero, Int.mul_zero] at this
  omega
theorem ts_bnd {m : M3} (h : Bnd 1000 m) : (-18000000 ≤ trcZ m ∧ trcZ m ≤ 18000000) ∧ (-18000000 ≤ sZ m ∧ sZ m ≤ 18000000) := by
  have b := @mul_bnd
  refine ⟨?_, ?_⟩
  · have h1 := h.xx; have h2 := h.yy; have h3 := h.zz
    unfold trcZ; omega
  · have e : sZ m = (m.yy * m.zz - m.yz * m.zy) + (m.xx * m.zz - m.xz * m.zx) + (m.xx * m.yy - m.xy * m.yx) := by
      simp only [sZ, trcZ, adjZ]; grind
    rw [e]
    have q1 := b h.yy h.zz; have q2 := b h.yz h.zy; have q3 := b h.xx h.zz; have q4 := b h.xz h.zx; have q5 := b h.xx h.yy; have q6 := b h.xy h.yx
    omega
theorem grow {t s M : Int} (hM : 4 ≤ M) (h : M ≤ t ∨ M ≤ -t ∨ M ≤ s ∨ M ≤ -s) : 2 * M ≤ t * t - 2 * s ∨ 2 * M ≤ s * s - 2 * t := by
  have sq : ∀ x y : Int, (M ≤ x ∨ M ≤ -x) → (-x ≤ y ∨ x ≤ y) → (y ≤ x ∨ y ≤ -x) → 2 * M ≤ x * x - 2 * y := fun x y h1 _ h3 => by
    rcases Int.le_total 0 x with c | c
    · have h4 : 4 * x ≤ x * x := Int.mul_le_mul_of_nonneg_right (by omega) c
      omega
    · have h4 : 4 * -x ≤ -x * -x := Int.mul_le_mul_of_nonneg_right (by omega) (by omega)
      have h5 : -x * -x = x * x := by rw [Int.neg_mul_neg]
      omega
  rcases Int.le_total 0 t with c1 | c1 <;> rcases Int.le_total 0 s with c2 | c2
  · rcases Int.le_total t s with c3 | c3
    · exact .inr (sq s t (by omega) (by omega) (by omega))
    · exact .inl (sq t s (by omega) (by omega) (by omega))
  · rcases Int.le_total t (-s) with c3 | c3
    · exact .inr (sq s t (by omega) (by omega) (by omega))
    · exact .inl (sq t s (by omega) (by omega) (by omega))
  · rcases Int.le_total (-t) s with c3 | c3
    · exact .inr (sq s t (by omega) (by omega) (by omega))
    · exact .inl (sq t s (by omega) (by omega) (by omega))
  · rcases Int.le_total (-t) (-s) with c3 | c3
    · exact .inr (sq s t (by omega) (by omega) (by omega))
    · exact .inl (sq t s (by omega) (by omega) (by omega))
theorem sq_det {m : M3} (hd : detZ m = 1) : ∀ k, detZ (sqN k m) = 1
  | 0 => hd
  | k + 1 => by
    show detZ (mulZ _ _) = 1
    rw [sq_d, sq_det hd k]; rfl
theorem sq_add (m : M3) (j : Nat) : ∀ k, sqN k (sqN j m) = sqN (j + k) m
  | 0 => rfl
  | k + 1 => by
    show mulZ (sqN k (sqN j m)) (sqN k (sqN j m)) = mulZ (sqN (j + k) m) (sqN (j + k) m)
    rw [sq_add m j k]
theorem ts_small {m : M3} (hd : detZ m = 1) (hb : ∀ k, Bnd 1000 (sqN k m)) : (-3 ≤ trcZ m ∧ trcZ m ≤ 3) ∧ (-3 ≤ sZ m ∧ sZ m ≤ 3) := by
  refine Classical.byContradiction fun hn => ?_
  have key : ∀ k : Nat, (4 * 2 ^ k : Int) ≤ trcZ (sqN k m) ∨ (4 * 2 ^ k : Int) ≤ -trcZ (sqN k m) ∨ (4 * 2 ^ k : Int) ≤ sZ (sqN k m) ∨ (4 * 2 ^ k : Int) ≤ -sZ (sqN k m) := fun k => by
    induction k with
    | zero => show (4 * 1 : Int) ≤ trcZ m ∨ (4 * 1 : Int) ≤ -trcZ m ∨ (4 * 1 : Int) ≤ sZ m ∨ (4 * 1 : Int) ≤ -sZ m
              omega
    | succ k ih =>
      have h4 : (4 : Int) ≤ 4 * 2 ^ k := by
        have : (1 : Int) ≤ 2 ^ k := Int.pow_pos (by decide)
        omega
      have h := grow h4 ih
      have e1 : trcZ (sqN (k + 1) m) = trcZ (sqN k m) * trcZ (sqN k m) - 2 * sZ (sqN k m) := sq_t _
      have e2 : sZ (sqN (k + 1) m) = sZ (sqN k m) * sZ (sqN k m) - 2 * trcZ (sqN k m) := by
        have := sq_s (sqN k m)
        rw [sq_det hd k, Int.one_mul] at this
        exact this
      have e3 : (4 * 2 ^ (k + 1) : Int) = 2 * (4 * 2 ^ k) := by rw [Int.pow_succ]; omega
      rw [e1, e2, e3]
      rcases h with h | h
      · exact .inl h
      · exact .inr (.inr (.inl h))
  have h1 := key 23
  have h2 := ts_bnd (hb 23)
  have e : (4 * 2 ^ 23 : Int) = 33554432 := by decide
  rw [e] at h1
  omega
theorem ts_five {t s t1 s1 t2 s2 t3 s3 : Int} (h0 : (-3 ≤ t ∧ t ≤ 3) ∧ (-3 ≤ s ∧ s ≤ 3)) (e1 : t1 = t * t - 2 * s) (f1 : s1 = s * s - 2 * t) (h1 : (-3 ≤ t1 ∧ t1 ≤ 3) ∧ (-3 ≤ s1 ∧ s1 ≤ 3))
    (e2 : t2 = t1 * t1 - 2 * s1) (f2 : s2 = s1 * s1 - 2 * t1) (h2 : (-3 ≤ t2 ∧ t2 ≤ 3) ∧ (-3 ≤ s2 ∧ s2 ≤ 3)) (e3 : t3 = t2 * t2 - 2 * s2) (f3 : s3 = s2 * s2 - 2 * t2) (h3 : (-3 ≤ t3 ∧ t3 ≤ 3) ∧ (-3 ≤ s3 ∧ s3 ≤ 3)) :
    (t = -1 ∧ s = -1) ∨ (t = 0 ∧ s = 0) ∨ (t = 1 ∧ s = 1) ∨ (t = 2 ∧ s = 2) ∨ (t = 3 ∧ s = 3) := by
  have ht : t = -3 ∨ t = -2 ∨ t = -1 ∨ t = 0 ∨ t = 1 ∨ t = 2 ∨ t = 3 := by omega
  have hs : s = -3 ∨ s = -2 ∨ s = -1 ∨ s = 0 ∨ s = 1 ∨ s = 2 ∨ s = 3 := by omega
  have fin : ∀ a b : Int, t = a → s = b → t1 = a * a - 2 * b ∧ s1 = b * b - 2 * a := fun a b h1 h2 => by rw [e1, f1, h1, h2]; exact ⟨rfl, rfl⟩
  have fin2 : ∀ a b : Int, t1 = a → s1 = b → t2 = a * a - 2 * b ∧ s2 = b * b - 2 * a := fun a b h1 h2 => by rw [e2, f2, h1, h2]; exact ⟨rfl, rfl⟩
  have fin3 : ∀ a b : Int, t2 = a → s2 = b → t3 = a * a - 2 * b ∧ s3 = b * b - 2 * a := fun a b h1 h2 => by rw [e3, f3, h1, h2]; exact ⟨rfl, rfl⟩
  rcases ht with ht | ht | ht | ht | ht | ht | ht <;> rcases hs with hs | hs | hs | hs | hs | hs | hs <;>
    first
    | omega
    | (obtain ⟨a1, a2⟩ := fin _ _ ht hs
       first
       | (exfalso; omega)
       | (obtain ⟨b1, b2⟩ := fin2 _ _ a1 a2
          first
          | (exfalso; omega)
          | (obtain ⟨c1, c2⟩ := fin3 _ _ b1 b2; exfalso; omega)))
/-! ### Unipotent ones -/
def cmb (a b : Int) (N M : M3) : M3 := M3.mk (1 + a * N.xx + b * M.xx) (a * N.xy + b * M.xy) (a * N.xz + b * M.xz) (a * N.yx + b * M.yx) (1 + a * N.yy + b * M.yy) (a * N.yz + b * M.yz) (a * N.zx + b * M.zx) (a * N.zy + b * M.zy) (1 + a * N.zz + b * M.zz)
def alN : Nat → Int
  | 0 => 1
  | k + 1 => 2 * alN k
def beN : Nat → Int
  | 0 => 0
  | k + 1 => 2 * beN k + alN k * alN k
theorem ent (a b e1 e2 : Int) {n1 n2 n3 m1 m2 m3 x1 x2 x3 y1 y2 y3 p q : Int} (h1 : n1 * x1 + n2 * x2 + n3 * x3 = q) (h2 : n1 * y1 + n2 * y2 + n3 * y3 = 0) (h3 : m1 * x1 + m2 * x2 + m3 * x3 = 0) (h4 : m1 * y1 + m2 * y2 + m3 * y3 = 0) :
    (a * n1 + b * m1) * (a * x1 + b * y1) + (a * n2 + b * m2) * (a * x2 + b * y2) + (a * n3 + b * m3) * (a * x3 + b * y3) = a * a * q := by
  have e : (a * n1 + b * m1) * (a * x1 + b * y1) + (a * n2 + b * m2) * (a * x2 + b * y2) + (a * n3 + b * m3) * (a * x3 + b * y3) = a * a * (n1 * x1 + n2 * x2 + n3 * x3) + a * b * (n1 * y1 + n2 * y2 + n3 * y3) + a * b * (m1 * x1 + m2 * x2 + m3 * x3) + b * b * (m1 * y1 + m2 * y2 + m3 * y3) := by grind
  rw [e, h1, h2, h3, h4]; simp
end Go.Fx
