/-
  Whole matrices: powers, Cayley and Hamilton's law, traces of powers.
-/
import Derived.Test.YthljaepanhdmiaaQ
namespace Go.Fx
open Go

theorem mulB {a b : Int} (k l : Int) (h1 : -k ≤ a) (h2 : a ≤ k) (h3 : -l ≤ b) (h4 : b ≤ l) : -(k * l) ≤ a * b ∧ a * b ≤ k * l := by
  have e := Int.natAbs_mul a b
  have h5 : (a * b).natAbs ≤ k.natAbs * l.natAbs := by rw [e]; exact Nat.mul_le_mul (by omega) (by omega)
  have h6 : ((k.natAbs * l.natAbs : Nat) : Int) = k * l := by
    rw [Int.natCast_mul, show (k.natAbs : Int) = k by omega, show (l.natAbs : Int) = l by omega]
  omega
/-- All entries within k. -/
structure Bnd (k : Int) (m : M3) : Prop where
  xx : -k ≤ m.xx ∧ m.xx ≤ k
  xy : -k ≤ m.xy ∧ m.xy ≤ k
  xz : -k ≤ m.xz ∧ m.xz ≤ k
  yx : -k ≤ m.yx ∧ m.yx ≤ k
  yy : -k ≤ m.yy ∧ m.yy ≤ k
  yz : -k ≤ m.yz ∧ m.yz ≤ k
  zx : -k ≤ m.zx ∧ m.zx ≤ k
  zy : -k ≤ m.zy ∧ m.zy ≤ k
  zz : -k ≤ m.zz ∧ m.zz ≤ k
theorem dotB {a b c x y z : Int} (k l : Int) (h1 : -k ≤ a ∧ a ≤ k) (h2 : -k ≤ b ∧ b ≤ k) (h3 : -k ≤ c ∧ c ≤ k) (h4 : -l ≤ x ∧ x ≤ l) (h5 : -l ≤ y ∧ y ≤ l) (h6 : -l ≤ z ∧ z ≤ l) :
    -(3 * (k * l)) ≤ a * x + b * y + c * z ∧ a * x + b * y + c * z ≤ 3 * (k * l) := by
  have q1 := mulB k l h1.1 h1.2 h4.1 h4.2
  have q2 := mulB k l h2.1 h2.2 h5.1 h5.2
  have q3 := mulB k l h3.1 h3.2 h6.1 h6.2
  omega
theorem mulZ_B {k l : Int} {a b : M3} (ha : Bnd k a) (hb : Bnd l b) : Bnd (3 * (k * l)) (mulZ a b) :=
  ⟨dotB k l ha.xx ha.xy ha.xz hb.xx hb.yx hb.zx, dotB k l ha.xx ha.xy ha.xz hb.xy hb.yy hb.zy, dotB k l ha.xx ha.xy ha.xz hb.xz hb.yz hb.zz,
   dotB k l ha.yx ha.yy ha.yz hb.xx hb.yx hb.zx, dotB k l ha.yx ha.yy ha.yz hb.xy hb.yy hb.zy, dotB k l ha.yx ha.yy ha.yz hb.xz hb.yz hb.zz,
   dotB k l ha.zx ha.zy ha.zz hb.xx hb.yx hb.zx, dotB k l ha.zx ha.zy ha.zz hb.xy hb.yy hb.zy, dotB k l ha.zx ha.zy ha.zz hb.xz hb.yz hb.zz⟩
theorem cofB {a b c d : Int} (k : Int) (h1 : -k ≤ a ∧ a ≤ k) (h2 : -k ≤ b ∧ b ≤ k) (h3 : -k ≤ c ∧ c ≤ k) (h4 : -k ≤ d ∧ d ≤ k) : -(2 * (k * k)) ≤ a * b - c * d ∧ a * b - c * d ≤ 2 * (k * k) := by
  have q1 := mulB k k h1.1 h1.2 h2.1 h2.2
  have q2 := mulB k k h3.1 h3.2 h4.1 h4.2
  omega
theorem adjZ_B {k : Int} {m : M3} (h : Bnd k m) : Bnd (2 * (k * k)) (adjZ m) :=
  ⟨cofB k h.yy h.zz h.yz h.zy, cofB k h.zy h.xz h.zz h.xy, cofB k h.xy h.yz h.xz h.yy,
   cofB k h.yz h.zx h.yx h.zz, cofB k h.zz h.xx h.zx h.xz, cofB k h.xz h.yx h.xx h.yz,
   cofB k h.yx h.zy h.yy h.zx, cofB k h.zx h.xy h.zy h.xx, cofB k h.xx h.yy h.xy h.yx⟩
theorem detZ_B {k : Int} {m : M3} (h : Bnd k m) : -(3 * (k * (2 * (k * k)))) ≤ detZ m ∧ detZ m ≤ 3 * (k * (2 * (k * k))) :=
  dotB k (2 * (k * k)) h.xx h.xy h.xz (cofB k h.yy h.zz h.yz h.zy) (cofB k h.yz h.zx h.yx h.zz) (cofB k h.yx h.zy h.yy h.zx)
theorem trcZ_B {k : Int} {m : M3} (h : Bnd k m) : -(3 * k) ≤ trcZ m ∧ trcZ m ≤ 3 * k := by
  have h1 := h.xx
  have h2 := h.yy
  have h3 := h.zz
  unfold trcZ; omega
theorem wM_id {k : Int} {m : M3} (hk : k ≤ 9223372036854775807) (h : Bnd k m) : wM m = m := by
  obtain ⟨h1, h2, h3, h4, h5, h6, h7, h8, h9⟩ := h
  unfold wM
  rw [w64_id (by omega) (by omega), w64_id (by omega) (by omega), w64_id (by omega) (by omega), w64_id (by omega) (by omega), w64_id (by omega) (by omega), w64_id (by omega) (by omega), w64_id (by omega) (by omega), w64_id (by omega) (by omega), w64_id (by omega) (by omega)]
theorem okM_B {m : M3} (h : okM m = true) : Bnd 1000 m := by
  simp only [okM, inE, Bool.and_eq_true, decide_eq_true_eq] at h
  obtain ⟨⟨⟨⟨⟨⟨⟨⟨h1, h2⟩, h3⟩, h4⟩, h5⟩, h6⟩, h7⟩, h8⟩, h9⟩ := h
  exact ⟨h1, h2, h3, h4, h5, h6, h7, h8, h9⟩
theorem B_okM {k : Int} {m : M3} (hk : k ≤ 1000) (h : Bnd k m) : okM m = true := by
  obtain ⟨h1, h2, h3, h4, h5, h6, h7, h8, h9⟩ := h
  simp only [okM, inE, Bool.and_eq_true, decide_eq_true_eq]
  exact ⟨⟨⟨⟨⟨⟨⟨⟨by omega, by omega⟩, by omega⟩, by omega⟩, by omega⟩, by omega⟩, by omega⟩, by omega⟩, by omega⟩
theorem errM_ok {m : M3} : errM m = 0 ↔ okM m = true := by
  unfold errM; split <;> simp_all

/-! ### Powers -/
def linZ (a b c : Int) (m : M3) : M3 := M3.mk
  (a * (mulZ m m).xx + b * m.xx + c) (a * (mulZ m m).xy + b * m.xy) (a * (mulZ m m).xz + b * m.xz)
  (a * (mulZ m m).yx + b * m.yx) (a * (mulZ m m).yy + b * m.yy + c) (a * (mulZ m m).yz + b * m.yz)
  (a * (mulZ m m).zx + b * m.zx) (a * (mulZ m m).zy + b * m.zy) (a * (mulZ m m).zz + b * m.zz + c)
def powI (m : M3) : Nat → M3
  | 0 => oneZ 1
  | k + 1 => mulZ (powI m k) m
def sZ (m : M3) : Int := trcZ (adjZ m)
theorem lin_step (a b c : Int) (m : M3) : mulZ (linZ a b c m) m = linZ (a * trcZ m + b) (c - a * sZ m) (a * detZ m) m := by
  simp only [mulZ, linZ, trcZ, sZ, adjZ, detZ, M3.mk.injEq]
  refine ⟨?_, ?_, ?_, ?_, ?_, ?_, ?_, ?_, ?_⟩ <;> grind
def coef (t s d : Int) : Nat → Int × Int × Int
  | 0 => (0, 0, 1)
  | k + 1 => match coef t s d k with
    | (a, b, c) => (a * t + b, c - a * s, a * d)
theorem powI_lin (m : M3) : ∀ k, powI m k = linZ (coef (trcZ m) (sZ m) (detZ m) k).1 (coef (trcZ m) (sZ m) (detZ m) k).2.1 (coef (trcZ m) (sZ m) (detZ m) k).2.2 m
  | 0 => by simp [powI, coef, linZ, oneZ]
  | k + 1 => by
    rw [powI, powI_lin m k, lin_step]
    rfl
/-- The trace of a power. -/
def trp (t s d : Int) (k : Nat) : Int := (coef t s d k).1 * (t * t - 2 * s) + (coef t s d k).2.1 * t + 3 * (coef t s d k).2.2
theorem trc_lin (a b c : Int) (m : M3) : trcZ (linZ a b c m) = a * (trcZ m * trcZ m - 2 * sZ m) + b * trcZ m + 3 * c := by
  simp only [trcZ, linZ, sZ, adjZ, mulZ]
  grind
theorem trc_pow (m : M3) (k : Nat) : trcZ (powI m k) = trp (trcZ m) (sZ m) (detZ m) k := by
  rw [powI_lin, trc_lin]; rfl
theorem mulZ_one (m : M3) : mulZ (oneZ 1) m = m ∧ mulZ m (oneZ 1) = m := by
  cases m; simp [mulZ, oneZ]
theorem mulZ_assoc (a b c : M3) : mulZ (mulZ a b) c = mulZ a (mulZ b c) := by
  simp only [mulZ, M3.mk.injEq]
  refine ⟨?_, ?_, ?_, ?_, ?_, ?_, ?_, ?_, ?_⟩ <;> grind
end Go.Fx
