/-
  Powers modulo a prime: bounds, and no number goes round.
-/
import Derived.Test.YthljaepanhdmiaaS
namespace Go.Fx
open Go

def inP (p x : Int) : Prop := 0 ≤ x ∧ x < p
theorem resP_in {p : Int} (hp : 0 < p) (x : Int) : inP p (resP p x) := ⟨Int.emod_nonneg _ (by omega), Int.emod_lt_of_pos _ hp⟩
theorem tmod_in {p x : Int} (hp : 0 < p) (hx : 0 ≤ x) : inP p (Int.tmod x p) := by
  rw [Int.tmod_eq_emod_of_nonneg hx]
  exact ⟨Int.emod_nonneg _ (by omega), Int.emod_lt_of_pos _ hp⟩
theorem mul_in {p a b : Int} (hp : p ≤ 2147483648) (ha : inP p a) (hb : inP p b) : 0 ≤ a * b ∧ a * b ≤ 4611686018427387904 := by
  obtain ⟨a1, a2⟩ := ha
  obtain ⟨b1, b2⟩ := hb
  refine ⟨Int.mul_nonneg a1 b1, ?_⟩
  have h1 : a * b ≤ 2147483648 * b := Int.mul_le_mul_of_nonneg_right (by omega) b1
  omega
theorem dotP_in {p a b c : Int} (hp : 0 < p) (hq : p ≤ 2147483648) (x y z : Int) (ha : inP p a) (hb : inP p b) (hc : inP p c) :
    inP p (dotP p a b c x y z) ∧
    Int.tmod (w64 (Int.tmod (w64 (Int.tmod (0 + w64 (a * resP p x)) p + w64 (b * resP p y))) p + w64 (c * resP p z))) p = dotP p a b c x y z := by
  have h1 := mul_in hq ha (resP_in hp x)
  have h2 := mul_in hq hb (resP_in hp y)
  have h3 := mul_in hq hc (resP_in hp z)
  have t1 := tmod_in hp h1.1
  have k1 : 0 ≤ Int.tmod (a * resP p x) p + b * resP p y := Int.add_nonneg t1.1 h2.1
  have t2 := tmod_in hp k1
  have k2 : 0 ≤ Int.tmod (Int.tmod (a * resP p x) p + b * resP p y) p + c * resP p z := Int.add_nonneg t2.1 h3.1
  refine ⟨tmod_in hp k2, ?_⟩
  have l1 := t1.2
  have l2 := t2.2
  rw [Int.zero_add, w64_id (x := a * resP p x) (by omega) (by omega), w64_id (x := b * resP p y) (by omega) (by omega), w64_id (x := Int.tmod (a * resP p x) p + b * resP p y) (by omega) (by omega), w64_id (x := c * resP p z) (by omega) (by omega), w64_id (by omega) (by omega)]
  rfl
def allP (p : Int) (c : M3) : Prop := (inP p c.xx ∧ inP p c.xy ∧ inP p c.xz) ∧ (inP p c.yx ∧ inP p c.yy ∧ inP p c.yz) ∧ inP p c.zx ∧ inP p c.zy ∧ inP p c.zz
theorem stepP_in {p : Int} (hp : 0 < p) (hq : p ≤ 2147483648) (m : M3) {c : M3} (h : allP p c) : allP p (stepP p m c) := by
  obtain ⟨⟨a1, a2, a3⟩, ⟨b1, b2, b3⟩, c1, c2, c3⟩ := h
  exact ⟨⟨(dotP_in hp hq _ _ _ a1 a2 a3).1, (dotP_in hp hq _ _ _ a1 a2 a3).1, (dotP_in hp hq _ _ _ a1 a2 a3).1⟩, ⟨(dotP_in hp hq _ _ _ b1 b2 b3).1, (dotP_in hp hq _ _ _ b1 b2 b3).1, (dotP_in hp hq _ _ _ b1 b2 b3).1⟩,
    (dotP_in hp hq _ _ _ c1 c2 c3).1, (dotP_in hp hq _ _ _ c1 c2 c3).1, (dotP_in hp hq _ _ _ c1 c2 c3).1⟩
theorem powP_in {p : Int} (hp : 1 < p) (hq : p ≤ 2147483648) (m : M3) : ∀ k, allP p (powP p m k)
  | 0 => by
    have h0 : inP p 0 := ⟨by omega, by omega⟩
    have h1 : inP p 1 := ⟨by omega, by omega⟩
    exact ⟨⟨h1, h0, h0⟩, ⟨h0, h1, h0⟩, h0, h0, h1⟩
  | k + 1 => stepP_in (by omega) hq m (powP_in hp hq m k)
def dotW (p a b c x y z : Int) : Int := Int.tmod (w64 (Int.tmod (w64 (Int.tmod (0 + w64 (a * ((Int.tmod x p + p) % p))) p + w64 (b * ((Int.tmod y p + p) % p)))) p + w64 (c * ((Int.tmod z p + p) % p)))) p
def stepW (p : Int) (m c : M3) : M3 := M3.mk
  (dotW p c.xx c.xy c.xz m.xx m.yx m.zx) (dotW p c.xx c.xy c.xz m.xy m.yy m.zy) (dotW p c.xx c.xy c.xz m.xz m.yz m.zz)
  (dotW p c.yx c.yy c.yz m.xx m.yx m.zx) (dotW p c.yx c.yy c.yz m.xy m.yy m.zy) (dotW p c.yx c.yy c.yz m.xz m.yz m.zz)
  (dotW p c.zx c.zy c.zz m.xx m.yx m.zx) (dotW p c.zx c.zy c.zz m.xy m.yy m.zy) (dotW p c.zx c.zy c.zz m.xz m.yz m.zz)
theorem dotW_eq {p a b c : Int} (hp : 0 < p) (hq : p ≤ 2147483648) (x y z : Int) (ha : inP p a) (hb : inP p b) (hc : inP p c) : dotW p a b c x y z = dotP p a b c x y z := (dotP_in hp hq x y z ha hb hc).2
theorem stepW_eq {p : Int} (hp : 0 < p) (hq : p ≤ 2147483648) (m : M3) {c : M3} (h : allP p c) : stepW p m c = stepP p m c := by
  obtain ⟨⟨a1, a2, a3⟩, ⟨b1, b2, b3⟩, c1, c2, c3⟩ := h
  unfold stepW stepP
  rw [dotW_eq hp hq _ _ _ a1 a2 a3, dotW_eq hp hq _ _ _ a1 a2 a3, dotW_eq hp hq _ _ _ a1 a2 a3, dotW_eq hp hq _ _ _ b1 b2 b3, dotW_eq hp hq _ _ _ b1 b2 b3, dotW_eq hp hq _ _ _ b1 b2 b3, dotW_eq hp hq _ _ _ c1 c2 c3, dotW_eq hp hq _ _ _ c1 c2 c3, dotW_eq hp hq _ _ _ c1 c2 c3]
theorem pow_round {n p z : Int} {m c : M3} (hp : 1 < p) (hq : p ≤ 2147483648) (hn : n ≤ 9223372036854775807) (h : pInv n p m z c) (hz : z < n) :
    pInv n p m (w64 (z + 1)) (stepW p m c) ∧ (decide (0 ≤ pMu n (w64 (z + 1)))) = true ∧ (decide (pMu n (w64 (z + 1)) < pMu n z)) = true := by
  obtain ⟨h1, h2, rfl⟩ := h
  have hw : w64 (z + 1) = z + 1 := w64_id (by omega) (by omega)
  rw [hw, stepW_eq (by omega) hq m (powP_in hp hq m _)]
  refine ⟨⟨by omega, .inl (by omega), ?_⟩, ?_, ?_⟩
  · rw [show (z + 1).toNat = z.toNat + 1 by omega]
    rfl
  · exact decide_eq_true (by unfold pMu; omega)
  · exact decide_eq_true (by unfold pMu; omega)
theorem pow_zero (n p : Int) (m : M3) : pInv n p m 0 (oneZ 1) := ⟨Int.le_refl _, .inr rfl, rfl⟩
theorem pow_end {n p z : Int} {m c : M3} (h : pInv n p m z c) (hz : ¬ z < n) : c = powP p m n.toNat := by
  obtain ⟨h1, h2, rfl⟩ := h
  rw [show z.toNat = n.toNat by omega]
end Go.Fx
