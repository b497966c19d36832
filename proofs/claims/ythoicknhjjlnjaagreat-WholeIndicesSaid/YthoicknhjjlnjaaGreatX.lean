/-
  Plain facts on whole-number vectors and matrices.
-/
import Derived.Test.YthoicknhjjlnjaaGreatE18
set_option linter.unusedSimpArgs false
set_option linter.unusedVariables false
set_option linter.unusedSectionVars false
section
namespace Go.Fx
open Go

def inE (k x : Int) : Bool := decide (-k ≤ x) && decide (x ≤ k)
def okM (m : M3) : Bool := inE 1000 m.xx && inE 1000 m.xy && inE 1000 m.xz && inE 1000 m.yx && inE 1000 m.yy && inE 1000 m.yz && inE 1000 m.zx && inE 1000 m.zy && inE 1000 m.zz
def okC (v : V3) : Bool := inE 2147483648 v.x && inE 2147483648 v.y && inE 2147483648 v.z
def bey (x k : Int) : Bool := decide (x < w64 (-k)) || decide (k < x)
def errM (m : M3) : Int := if okM m = true then 0 else 4
def errV (v : V3) : Int := if okC v = true then 0 else 4
def err2 (a b : Int) : Int := if a = 0 then b else a
def selM (e : Int) (m : M3) : M3 := if e = 0 then m else M3.mk 0 0 0 0 0 0 0 0 0
def selV (e : Int) (m : V3) : V3 := if e = 0 then m else V3.mk 0 0 0
def selI (e : Int) (m : Int) : Int := if e = 0 then m else 0
def wM (m : M3) : M3 := M3.mk (w64 m.xx) (w64 m.xy) (w64 m.xz) (w64 m.yx) (w64 m.yy) (w64 m.yz) (w64 m.zx) (w64 m.zy) (w64 m.zz)
def wV (v : V3) : V3 := V3.mk (w64 v.x) (w64 v.y) (w64 v.z)
def mulZ (a b : M3) : M3 := M3.mk
  (a.xx * b.xx + a.xy * b.yx + a.xz * b.zx) (a.xx * b.xy + a.xy * b.yy + a.xz * b.zy) (a.xx * b.xz + a.xy * b.yz + a.xz * b.zz)
  (a.yx * b.xx + a.yy * b.yx + a.yz * b.zx) (a.yx * b.xy + a.yy * b.yy + a.yz * b.zy) (a.yx * b.xz + a.yy * b.yz + a.yz * b.zz)
  (a.zx * b.xx + a.zy * b.yx + a.zz * b.zx) (a.zx * b.xy + a.zy * b.yy + a.zz * b.zy) (a.zx * b.xz + a.zy * b.yz + a.zz * b.zz)
def appZ (m : M3) (v : V3) : V3 := V3.mk (m.xx * v.x + m.xy * v.y + m.xz * v.z) (m.yx * v.x + m.yy * v.y + m.yz * v.z) (m.zx * v.x + m.zy * v.y + m.zz * v.z)
def traZ (m : M3) : M3 := M3.mk m.xx m.yx m.zx m.xy m.yy m.zy m.xz m.yz m.zz
def cofZ (a b c d : Int) : Int := a * b - c * d
def detZ (m : M3) : Int := m.xx * (m.yy * m.zz - m.yz * m.zy) + m.xy * (m.yz * m.zx - m.yx * m.zz) + m.xz * (m.yx * m.zy - m.yy * m.zx)
def trcZ (m : M3) : Int := m.xx + m.yy + m.zz
def adjZ (m : M3) : M3 := M3.mk
  (m.yy * m.zz - m.yz * m.zy) (m.zy * m.xz - m.zz * m.xy) (m.xy * m.yz - m.xz * m.yy)
  (m.yz * m.zx - m.yx * m.zz) (m.zz * m.xx - m.zx * m.xz) (m.xz * m.yx - m.xx * m.yz)
  (m.yx * m.zy - m.yy * m.zx) (m.zx * m.xy - m.zy * m.xx) (m.xx * m.yy - m.xy * m.yx)
def oneZ (n : Int) : M3 := M3.mk n 0 0 0 n 0 0 0 n
def uniE (m : M3) : Int := if errM m = 0 then (if w64 (detZ m) = 1 ∨ w64 (detZ m) = -1 then 0 else 3) else errM m
def cmpE (x y k : Int) : Int := if x < y then -1 else if y < x then 1 else k
def cmpM (a b : M3) : Int := cmpE a.xx b.xx (cmpE a.xy b.xy (cmpE a.xz b.xz (cmpE a.yx b.yx (cmpE a.yy b.yy (cmpE a.yz b.yz (cmpE a.zx b.zx (cmpE a.zy b.zy (cmpE a.zz b.zz 0))))))))
theorem errM_cases (m : M3) : errM m = 0 ∨ errM m = 4 := by
  unfold errM; split
  · exact .inl rfl
  · exact .inr rfl
theorem errV_cases (m : V3) : errV m = 0 ∨ errV m = 4 := by
  unfold errV; split
  · exact .inl rfl
  · exact .inr rfl
theorem errM_traZ (m : M3) : errM (traZ m) = errM m := by
  unfold errM
  have : okM (traZ m) = okM m := by
    simp only [okM, traZ]
    rw [Bool.eq_iff_iff]
    simp only [Bool.and_eq_true]
    constructor <;> intro h <;> simp_all
  rw [this]
/-! ### Powers modulo a prime -/
def resP (p x : Int) : Int := (Int.tmod x p + p) % p
def dotP (p a b c x y z : Int) : Int := Int.tmod (Int.tmod (Int.tmod (a * resP p x) p + b * resP p y) p + c * resP p z) p
def stepP (p : Int) (m c : M3) : M3 := M3.mk
  (dotP p c.xx c.xy c.xz m.xx m.yx m.zx) (dotP p c.xx c.xy c.xz m.xy m.yy m.zy) (dotP p c.xx c.xy c.xz m.xz m.yz m.zz)
  (dotP p c.yx c.yy c.yz m.xx m.yx m.zx) (dotP p c.yx c.yy c.yz m.xy m.yy m.zy) (dotP p c.yx c.yy c.yz m.xz m.yz m.zz)
  (dotP p c.zx c.zy c.zz m.xx m.yx m.zx) (dotP p c.zx c.zy c.zz m.xy m.yy m.zy) (dotP p c.zx c.zy c.zz m.xz m.yz m.zz)
def powP (p : Int) (m : M3) : Nat → M3
  | 0 => oneZ 1
  | k + 1 => stepP p m (powP p m k)
def eqM (a b : M3) : Bool := decide (a.xx = b.xx) && (decide (a.xy = b.xy) && (decide (a.xz = b.xz) && (decide (a.yx = b.yx) && (decide (a.yy = b.yy) && (decide (a.yz = b.yz) && (decide (a.zx = b.zx) && (decide (a.zy = b.zy) && (decide (a.zz = b.zz) && true))))))))
def powZ (m : M3) (n : Int) : Bool := eqM (powP 2147483647 m n.toNat) (oneZ 1) && (eqM (powP 2147483629 m n.toNat) (oneZ 1) && eqM (powP 2147483587 m n.toNat) (oneZ 1))
def pInv (n p : Int) (m : M3) (i : Int) (c : M3) : Prop := 0 ≤ i ∧ (i ≤ n ∨ i = 0) ∧ c = powP p m i.toNat
def pMu (n i : Int) : Int := n - i
end Go.Fx
end
section
namespace Go.Fx
open Go

def inP (p x : Int) : Prop := 0 ≤ x ∧ x < p
theorem resP_in {p : Int} (hp : 0 < p) (x : Int) : inP p (resP p x) := ⟨Int.emod_nonneg _ (by omega), Int.emod_lt_of_pos _ hp⟩
theorem tmod_in {p x : Int} (hp : 0 < p) (hx : 0 ≤ x) : inP p (Int.tmod x p) := by
  rw [Int.tmod_eq_emod_of_nonneg hx]
  exact ⟨Int.emod_nonneg _ (by omega), Int.emod_lt_of_pos _ hp⟩
theorem mul_in {p a b : Int} (hp : p ≤ 2147483648) (ha : inP p a) (hb : inP p b) : 0 ≤ a * b ∧ a * b ≤ 4611686018427387904 := by
  obtain ⟨a1, a2⟩ := ha
  obtain ⟨b1, b2⟩ := hb
  refine ⟨Int.mul_nonneg a1 b1, ?_⟩
  have h1 : a * b ≤ 2147483648 * b := Int.mul_le_mul_of_nonneg_right (by omega) b1
  omega
theorem dotP_in {p a b c : Int} (hp : 0 < p) (hq : p ≤ 2147483648) (x y z : Int) (ha : inP p a) (hb : inP p b) (hc : inP p c) :
    inP p (dotP p a b c x y z) ∧
    Int.tmod (w64 (Int.tmod (w64 (Int.tmod (0 + w64 (a * resP p x)) p + w64 (b * resP p y))) p + w64 (c * resP p z))) p = dotP p a b c x y z := by
  have h1 := mul_in hq ha (resP_in hp x)
  have h2 := mul_in hq hb (resP_in hp y)
  have h3 := mul_in hq hc (resP_in hp z)
  have t1 := tmod_in hp h1.1
  have k1 : 0 ≤ Int.tmod (a * resP p x) p + b * resP p y := Int.add_nonneg t1.1 h2.1
  have t2 := tmod_in hp k1
  have k2 : 0 ≤ Int.tmod (Int.tmod (a * resP p x) p + b * resP p y) p + c * resP p z := Int.add_nonneg t2.1 h3.1
  refine ⟨tmod_in hp k2, ?_⟩
  have l1 := t1.2
  have l2 := t2.2
  rw [Int.zero_add, w64_id (x := a * resP p x) (by omega) (by omega), w64_id (x := b * resP p y) (by omega) (by omega), w64_id (x := Int.tmod (a * resP p x) p + b * resP p y) (by omega) (by omega), w64_id (x := c * resP p z) (by omega) (by omega), w64_id (by omega) (by omega)]
  rfl
def allP (p : Int) (c : M3) : Prop := (inP p c.xx ∧ inP p c.xy ∧ inP p c.xz) ∧ (inP p c.yx ∧ inP p c.yy ∧ inP p c.yz) ∧ inP p c.zx ∧ inP p c.zy ∧ inP p c.zz
theorem stepP_in {p : Int} (hp : 0 < p) (hq : p ≤ 2147483648) (m : M3) {c : M3} (h : allP p c) : allP p (stepP p m c) := by
  obtain ⟨⟨a1, a2, a3⟩, ⟨b1, b2, b3⟩, c1, c2, c3⟩ := h
  exact ⟨⟨(dotP_in hp hq _ _ _ a1 a2 a3).1, (dotP_in hp hq _ _ _ a1 a2 a3).1, (dotP_in hp hq _ _ _ a1 a2 a3).1⟩, ⟨(dotP_in hp hq _ _ _ b1 b2 b3).1, (dotP_in hp hq _ _ _ b1 b2 b3).1, (dotP_in hp hq _ _ _ b1 b2 b3).1⟩,
    (dotP_in hp hq _ _ _ c1 c2 c3).1, (dotP_in hp hq _ _ _ c1 c2 c3).1, (dotP_in hp hq _ _ _ c1 c2 c3).1⟩
theorem powP_in {p : Int} (hp : 1 < p) (hq : p ≤ 2147483648) (m : M3) : ∀ k, allP p (powP p m k)
  | 0 => by
    have h0 : inP p 0 := ⟨by omega, by omega⟩
    have h1 : inP p 1 := ⟨by omega, by omega⟩
    exact ⟨⟨h1, h0, h0⟩, ⟨h0, h1, h0⟩, h0, h0, h1⟩
  | k + 1 => stepP_in (by omega) hq m (powP_in hp hq m k)
def dotW (p a b c x y z : Int) : Int := Int.tmod (w64 (Int.tmod (w64 (Int.tmod (0 + w64 (a * ((Int.tmod x p + p) % p))) p + w64 (b * ((Int.tmod y p + p) % p)))) p + w64 (c * ((Int.tmod z p + p) % p)))) p
def stepW (p : Int) (m c : M3) : M3 := M3.mk
  (dotW p c.xx c.xy c.xz m.xx m.yx m.zx) (dotW p c.xx c.xy c.xz m.xy m.yy m.zy) (dotW p c.xx c.xy c.xz m.xz m.yz m.zz)
  (dotW p c.yx c.yy c.yz m.xx m.yx m.zx) (dotW p c.yx c.yy c.yz m.xy m.yy m.zy) (dotW p c.yx c.yy c.yz m.xz m.yz m.zz)
  (dotW p c.zx c.zy c.zz m.xx m.yx m.zx) (dotW p c.zx c.zy c.zz m.xy m.yy m.zy) (dotW p c.zx c.zy c.zz m.xz m.yz m.zz)
theorem dotW_eq {p a b c : Int} (hp : 0 < p) (hq : p ≤ 2147483648) (x y z : Int) (ha : inP p a) (hb : inP p b) (hc : inP p c) : dotW p a b c x y z = dotP p a b c x y z := (dotP_in hp hq x y z ha hb hc).2
theorem stepW_eq {p : Int} (hp : 0 < p) (hq : p ≤ 2147483648) (m : M3) {c : M3} (h : allP p c) : stepW p m c = stepP p m c := by
  obtain ⟨⟨a1, a2, a3⟩, ⟨b1, b2, b3⟩, c1, c2, c3⟩ := h
  unfold stepW stepP
  rw [dotW_eq hp hq _ _ _ a1 a2 a3, dotW_eq hp hq _ _ _ a1 a2 a3, dotW_eq hp hq _ _ _ a1 a2 a3, dotW_eq hp hq _ _ _ b1 b2 b3, dotW_eq hp hq _ _ _ b1 b2 b3, dotW_eq hp hq _ _ _ b1 b2 b3, dotW_eq hp hq _ _ _ c1 c2 c3, dotW_eq hp hq _ _ _ c1 c2 c3, dotW_eq hp hq _ _ _ c1 c2 c3]
theorem pow_round {n p z : Int} {m c : M3} (hp : 1 < p) (hq : p ≤ 2147483648) (hn : n ≤ 9223372036854775807) (h : pInv n p m z c) (hz : z < n) :
    pInv n p m (w64 (z + 1)) (stepW p m c) ∧ (decide (0 ≤ pMu n (w64 (z + 1)))) = true ∧ (decide (pMu n (w64 (z + 1)) < pMu n z)) = true := by
  obtain ⟨h1, h2, rfl⟩ := h
  have hw : w64 (z + 1) = z + 1 := w64_id (by omega) (by omega)
  rw [hw, stepW_eq (by omega) hq m (powP_in hp hq m _)]
  refine ⟨⟨by omega, .inl (by omega), ?_⟩, ?_, ?_⟩
  · rw [show (z + 1).toNat = z.toNat + 1 by omega]
    rfl
  · exact decide_eq_true (by unfold pMu; omega)
  · exact decide_eq_true (by unfold pMu; omega)
theorem pow_zero (n p : Int) (m : M3) : pInv n p m 0 (oneZ 1) := ⟨Int.le_refl _, .inr rfl, rfl⟩
theorem pow_end {n p z : Int} {m c : M3} (h : pInv n p m z c) (hz : ¬ z < n) : c = powP p m n.toNat := by
  obtain ⟨h1, h2, rfl⟩ := h
  rw [show z.toNat = n.toNat by omega]
end Go.Fx
end
section
namespace Go.Fx
open Go

def ordMap : List (Int × Int) := [(3, 1), (2, 6), (1, 4), (0, 3), (-1, 2)]
def ordD (m : M3) : Int := selI (uniE m) (w64 (detZ m))
def ordT (m : M3) : Int := w64 (ordD m * w64 (w64 (m.xx + m.yy) + m.zz))
def ordB (m : M3) : Int := mgetD eqI ordMap (ordT m)
def ordN (m : M3) : Int := if ordD m < 0 then (if Int.tmod (ordB m) 2 = 1 then w64 (ordB m * 2) else ordB m) else ordB m
def ordHit (m : M3) (n k : Int) : Bool := decide (Int.tmod n k = 0) && powZ m k
/-- The least k from i on, below n, of which the power is the identity and that divides n; n, if there is none. -/
def ordK (m : M3) (n : Int) : Nat → Int → Int
  | 0, _ => n
  | f + 1, k => if k < n then (if ordHit m n k = true then k else ordK m n f (k + 1)) else n
def ordR (m : M3) : Int × Int :=
  if uniE m = 0 then (if mhas eqI ordMap (ordT m) = true then (if powZ m (ordN m) = true then (ordK m (ordN m) 6 1, 0) else (0, 9)) else (0, 9)) else (0, uniE m)
def ordZ (m : M3) : Int := (ordR m).1
def ordE (m : M3) : Int := (ordR m).2
def oInv (m : M3) (n k : Int) : Prop := 1 ≤ k ∧ k ≤ 7 ∧ ordK m n 6 1 = ordK m n (7 - k).toNat k
theorem ordB_in {m : M3} (h : mhas eqI ordMap (ordT m) = true) : 1 ≤ ordB m ∧ ordB m ≤ 6 ∧ ordB m ≠ 5 := by
  unfold ordB mgetD
  unfold mhas at h
  generalize ordT m = t at h ⊢
  simp only [ordMap, mfind, eqI, decide_eq_true_eq] at h ⊢
  by_cases e1 : (3 : Int) = t
  · rw [if_pos e1]; decide
  rw [if_neg e1] at h ⊢
  by_cases e2 : (2 : Int) = t
  · rw [if_pos e2]; decide
  rw [if_neg e2] at h ⊢
  by_cases e3 : (1 : Int) = t
  · rw [if_pos e3]; decide
  rw [if_neg e3] at h ⊢
  by_cases e4 : (0 : Int) = t
  · rw [if_pos e4]; decide
  rw [if_neg e4] at h ⊢
  by_cases e5 : (-1 : Int) = t
  · rw [if_pos e5]; decide
  rw [if_neg e5] at h
  cases h
theorem ordN_in {m : M3} (h : mhas eqI ordMap (ordT m) = true) : 1 ≤ ordN m ∧ ordN m ≤ 6 := by
  have hb := ordB_in h
  unfold ordN
  split
  · split
    · rename_i h2
      have : ordB m = 1 ∨ ordB m = 3 := by
        have h3 : ordB m = 1 ∨ ordB m = 2 ∨ ordB m = 3 ∨ ordB m = 4 ∨ ordB m = 6 := by omega
        rcases h3 with e | e | e | e | e <;> rw [e] at h2 <;> first | (exact .inl e) | (exact .inr e) | (exact absurd h2 (by decide))
      rcases this with e | e <;> rw [e] <;> decide
    · omega
  · omega
theorem ordTail {m : M3} {n : Int} (h1 : 1 ≤ n) (h6 : n ≤ 6) {r : Int × (Int × Unit)} (hr : r = if powZ m n = true then (ordK m n 6 1, (0, ())) else (0, (9, ()))) :
    True ∧ (((!powZ m n) = true → (0, (9, ())) = r) ∧ ((!powZ m n) = false →
      (oInv m n 1 ∧ ∀ z : Int, ((decide ((-9223372036854775808) ≤ z)) = true → ((decide (z ≤ 9223372036854775807)) = true → (oInv m n z →
        (((decide (z < n)) = true → ((z ≠ 0) ∧
          (((decide (Int.tmod n z = 0)) = true → (True ∧ ((powZ m z = true → (z, (0, ())) = r) ∧ (powZ m z = false → (oInv m n (w64 (z + 1)) ∧ ((decide (0 ≤ pMu n (w64 (z + 1)))) = true ∧ (decide (pMu n (w64 (z + 1)) < pMu n z)) = true)))))) ∧
           ((decide (Int.tmod n z = 0)) = false → (oInv m n (w64 (z + 1)) ∧ ((decide (0 ≤ pMu n (w64 (z + 1)))) = true ∧ (decide (pMu n (w64 (z + 1)) < pMu n z)) = true)))))) ∧
         ((decide (z < n)) = false → (n, (0, ())) = r))))))) ) := by
  refine ⟨trivial, fun h => ?_, fun h => ⟨⟨by omega, by omega, rfl⟩, fun z _ _ hI => ⟨fun hz => ?_, fun hz => ?_⟩⟩⟩
  · have : powZ m n = false := by cases e : powZ m n <;> simp_all
    rw [hr, this]; rfl
  · obtain ⟨i1, i2, i3⟩ := hI
    have hz := of_decide_eq_true hz
    have hp : powZ m n = true := by cases e : powZ m n <;> simp_all
    rw [if_pos hp] at hr
    have hw : w64 (z + 1) = z + 1 := w64_id (by omega) (by omega)
    have step : ∀ b, ordHit m n z = b → ordK m n (7 - z).toNat z = if b = true then z else ordK m n (7 - (z + 1)).toNat (z + 1) := fun b hb => by
      rw [show (7 - z).toNat = (7 - (z + 1)).toNat + 1 by omega, ordK, if_pos hz, hb]
    have next : ordHit m n z = false → (oInv m n (w64 (z + 1)) ∧ ((decide (0 ≤ pMu n (w64 (z + 1)))) = true ∧ (decide (pMu n (w64 (z + 1)) < pMu n z)) = true)) := fun hh => by
      rw [hw]
      refine ⟨⟨by omega, by omega, ?_⟩, decide_eq_true (by unfold pMu; omega), decide_eq_true (by unfold pMu; omega)⟩
      rw [i3, step _ hh]; rfl
    refine ⟨by omega, fun hd => ⟨trivial, fun hq => ?_, fun hq => next (by unfold ordHit; rw [hd, hq]; rfl)⟩, fun hd => next (by unfold ordHit; rw [hd]; rfl)⟩
    rw [hr, i3, step true (by unfold ordHit; rw [hd, hq]; rfl)]; rfl
  · obtain ⟨i1, i2, i3⟩ := hI
    have hz := of_decide_eq_false hz
    have hp : powZ m n = true := by cases e : powZ m n <;> simp_all
    rw [if_pos hp] at hr
    rw [hr, i3]
    cases e : (7 - z).toNat with
    | zero => rfl
    | succ k => rw [ordK, if_neg hz]
theorem ord_low {m : M3} (h : uniE m ≠ 0) : (0, (uniE m, ())) = (ordZ m, (ordE m, ())) := by
  unfold ordZ ordE ordR; rw [if_neg h]
theorem ord_none {m : M3} (h : uniE m = 0) (h2 : mhas eqI ordMap (ordT m) = false) : (0, (9, ())) = (ordZ m, (ordE m, ())) := by
  unfold ordZ ordE ordR; rw [if_pos h, if_neg (by rw [h2]; decide)]
theorem ord_some {m : M3} (h : uniE m = 0) (h2 : mhas eqI ordMap (ordT m) = true) {n : Int} (hn : n = ordN m) : ((ordZ m, (ordE m, ())) : Int × (Int × Unit)) = if powZ m n = true then (ordK m n 6 1, (0, ())) else (0, (9, ())) := by
  subst hn
  unfold ordZ ordE ordR; rw [if_pos h, if_pos h2]
  split <;> rfl
/-! ### One order of rows of numbers -/
def lexL : List Int → List Int → Int
  | x :: r, y :: s => cmpE x y (lexL r s)
  | _, _ => 0
theorem lexL_range : ∀ (a b : List Int), lexL a b = -1 ∨ lexL a b = 0 ∨ lexL a b = 1
  | [], _ => .inr (.inl rfl)
  | _ :: _, [] => .inr (.inl rfl)
  | x :: r, y :: s => by
    have := lexL_range r s
    simp only [lexL, cmpE]
    split
    · exact .inl rfl
    · split
      · exact .inr (.inr rfl)
      · exact this
theorem lexL_anti : ∀ (a b : List Int), lexL b a = -lexL a b
  | [], [] => rfl
  | [], _ :: _ => rfl
  | _ :: _, [] => rfl
  | x :: r, y :: s => by
    have := lexL_anti r s
    simp only [lexL, cmpE]
    by_cases h1 : x < y
    · rw [if_neg (by omega), if_pos h1, if_pos h1]; rfl
    · by_cases h2 : y < x
      · rw [if_pos h2, if_neg h1, if_pos h2]
      · rw [if_neg h1, if_neg h2, if_neg h2, if_neg h1, this]
theorem lexL_zero : ∀ {a b : List Int}, a.length = b.length → (lexL a b = 0 ↔ a = b)
  | [], [], _ => ⟨fun _ => rfl, fun _ => rfl⟩
  | x :: r, y :: s, h => by
    have := lexL_zero (a := r) (b := s) (by simpa using h)
    simp only [lexL, cmpE, List.cons.injEq]
    by_cases h1 : x < y
    · rw [if_pos h1]; exact ⟨fun h => absurd h (by decide), fun h => absurd h.1 (by omega)⟩
    · by_cases h2 : y < x
      · rw [if_neg h1, if_pos h2]; exact ⟨fun h => absurd h (by decide), fun h => absurd h.1 (by omega)⟩
      · rw [if_neg h1, if_neg h2, this]; exact ⟨fun h => ⟨by omega, h⟩, fun h => h.2⟩
theorem lexL_trans : ∀ {a b c : List Int}, a.length = b.length → b.length = c.length → (lexL a b ≤ 0 → lexL b c ≤ 0 → lexL a c ≤ 0) ∧ (lexL a b < 0 → lexL b c ≤ 0 → lexL a c < 0) ∧ (lexL a b ≤ 0 → lexL b c < 0 → lexL a c < 0)
  | [], [], [], _, _ => ⟨fun _ _ => Int.le_refl _, fun h _ => absurd h (by decide), fun _ h => absurd h (by decide)⟩
  | x :: r, y :: s, z :: t, h1, h2 => by
    obtain ⟨q1, q2, q3⟩ := lexL_trans (a := r) (b := s) (c := t) (by simpa using h1) (by simpa using h2)
    simp only [lexL, cmpE]
    by_cases a1 : x < y <;> by_cases a2 : y < x <;> by_cases b1 : y < z <;> by_cases b2 : z < y <;> by_cases c1 : x < z <;> by_cases c2 : z < x <;> simp only [a1, a2, b1, b2, c1, c2, if_true, if_false] <;> first | (exact ⟨by omega, by omega, by omega⟩) | (exact ⟨q1, q2, q3⟩)
def M3.row (m : M3) : List Int := [m.xx, m.xy, m.xz, m.yx, m.yy, m.yz, m.zx, m.zy, m.zz]
theorem cmpM_lex (a b : M3) : cmpM a b = lexL a.row b.row := rfl
theorem cmpM_self (a : M3) : cmpM a a = 0 := by rw [cmpM_lex]; exact (lexL_zero (a := a.row) (b := a.row) rfl).2 rfl
theorem cmpM_anti (a b : M3) : cmpM b a = -cmpM a b := by rw [cmpM_lex, cmpM_lex]; exact lexL_anti _ _
theorem row_inj {a b : M3} (h : a.row = b.row) : a = b := by
  cases a; cases b; simp only [M3.row, List.cons.injEq, and_true] at h; simp only [M3.mk.injEq]; exact h
theorem eqM_iff {a b : M3} : eqM a b = true ↔ a = b := by
  cases a; cases b; simp [eqM]
theorem eqM_cmp (a b : M3) : (decide (cmpM a b = 0)) = eqM a b := by
  rw [Bool.eq_iff_iff, decide_eq_true_iff, eqM_iff, cmpM_lex, lexL_zero (a := a.row) (b := b.row) rfl]
  exact ⟨row_inj, fun h => by rw [h]⟩
theorem no_not {b : Bool} (h : (!b) = true) : b = false := by cases b <;> first | rfl | cases h
theorem ye_not {b : Bool} (h : (!b) = false) : b = true := by cases b <;> first | rfl | cases h
/-! ### More of layer 1 -/
def scaZ (n : Int) (m : M3) : M3 := M3.mk (m.xx * n) (m.xy * n) (m.xz * n) (m.yx * n) (m.yy * n) (m.yz * n) (m.zx * n) (m.zy * n) (m.zz * n)
def inK1000 (k : Int) : Prop := 0 ≤ k ∧ k ≤ 1000
def tamM (k : Int) (m : M3) : M3 := M3.mk (Int.tmod m.xx (k + 1)) (Int.tmod m.xy (k + 1)) (Int.tmod m.xz (k + 1)) (Int.tmod m.yx (k + 1)) (Int.tmod m.yy (k + 1)) (Int.tmod m.yz (k + 1)) (Int.tmod m.zx (k + 1)) (Int.tmod m.zy (k + 1)) (Int.tmod m.zz (k + 1))
def rordC (t s d : Int) : Int :=
  if t = 0 ∧ s = 0 ∧ d = 1 then 3
  else if (t = 1 ∧ s = 1 ∧ d = 1) ∨ (t = -1 ∧ s = 1 ∧ d = -1) then 4
  else if (t = 0 ∧ s = 0 ∧ d = -1) ∨ (t = 2 ∧ s = 2 ∧ d = 1) ∨ (t = -2 ∧ s = 2 ∧ d = -1) then 6
  else 0
def rordZ (m : M3) : Int :=
  if eqM m (oneZ 1) = true then 1 else if eqM (wM (mulZ m m)) (oneZ 1) = true then 2 else rordC (w64 (trcZ m)) (w64 (trcZ (wM (adjZ m)))) (w64 (detZ m))
def docO (m : M3) : Int := if uniE m = 0 then rordZ m else 0
def docE (m : M3) : Int := if uniE m = 0 then (if rordZ m = 0 then 9 else 0) else uniE m
end Go.Fx
end
section
namespace Go.Fx
open Go

theorem mulB {a b : Int} (k l : Int) (h1 : -k ≤ a) (h2 : a ≤ k) (h3 : -l ≤ b) (h4 : b ≤ l) : -(k * l) ≤ a * b ∧ a * b ≤ k * l := by
  have e := Int.natAbs_mul a b
  have h5 : (a * b).natAbs ≤ k.natAbs * l.natAbs := by rw [e]; exact Nat.mul_le_mul (by omega) (by omega)
  have h6 : ((k.natAbs * l.natAbs : Nat) : Int) = k * l := by
    rw [Int.natCast_mul, show (k.natAbs : Int) = k by omega, show (l.natAbs : Int) = l by omega]
  omega
/-- All entries within k. -/
structure Bnd (k : Int) (m : M3) : Prop where
  xx : -k ≤ m.xx ∧ m.xx ≤ k
  xy : -k ≤ m.xy ∧ m.xy ≤ k
  xz : -k ≤ m.xz ∧ m.xz ≤ k
  yx : -k ≤ m.yx ∧ m.yx ≤ k
  yy : -k ≤ m.yy ∧ m.yy ≤ k
  yz : -k ≤ m.yz ∧ m.yz ≤ k
  zx : -k ≤ m.zx ∧ m.zx ≤ k
  zy : -k ≤ m.zy ∧ m.zy ≤ k
  zz : -k ≤ m.zz ∧ m.zz ≤ k
theorem dotB {a b c x y z : Int} (k l : Int) (h1 : -k ≤ a ∧ a ≤ k) (h2 : -k ≤ b ∧ b ≤ k) (h3 : -k ≤ c ∧ c ≤ k) (h4 : -l ≤ x ∧ x ≤ l) (h5 : -l ≤ y ∧ y ≤ l) (h6 : -l ≤ z ∧ z ≤ l) :
    -(3 * (k * l)) ≤ a * x + b * y + c * z ∧ a * x + b * y + c * z ≤ 3 * (k * l) := by
  have q1 := mulB k l h1.1 h1.2 h4.1 h4.2
  have q2 := mulB k l h2.1 h2.2 h5.1 h5.2
  have q3 := mulB k l h3.1 h3.2 h6.1 h6.2
  omega
theorem mulZ_B {k l : Int} {a b : M3} (ha : Bnd k a) (hb : Bnd l b) : Bnd (3 * (k * l)) (mulZ a b) :=
  ⟨dotB k l ha.xx ha.xy ha.xz hb.xx hb.yx hb.zx, dotB k l ha.xx ha.xy ha.xz hb.xy hb.yy hb.zy, dotB k l ha.xx ha.xy ha.xz hb.xz hb.yz hb.zz,
   dotB k l ha.yx ha.yy ha.yz hb.xx hb.yx hb.zx, dotB k l ha.yx ha.yy ha.yz hb.xy hb.yy hb.zy, dotB k l ha.yx ha.yy ha.yz hb.xz hb.yz hb.zz,
   dotB k l ha.zx ha.zy ha.zz hb.xx hb.yx hb.zx, dotB k l ha.zx ha.zy ha.zz hb.xy hb.yy hb.zy, dotB k l ha.zx ha.zy ha.zz hb.xz hb.yz hb.zz⟩
theorem cofB {a b c d : Int} (k : Int) (h1 : -k ≤ a ∧ a ≤ k) (h2 : -k ≤ b ∧ b ≤ k) (h3 : -k ≤ c ∧ c ≤ k) (h4 : -k ≤ d ∧ d ≤ k) : -(2 * (k * k)) ≤ a * b - c * d ∧ a * b - c * d ≤ 2 * (k * k) := by
  have q1 := mulB k k h1.1 h1.2 h2.1 h2.2
  have q2 := mulB k k h3.1 h3.2 h4.1 h4.2
  omega
theorem adjZ_B {k : Int} {m : M3} (h : Bnd k m) : Bnd (2 * (k * k)) (adjZ m) :=
  ⟨cofB k h.yy h.zz h.yz h.zy, cofB k h.zy h.xz h.zz h.xy, cofB k h.xy h.yz h.xz h.yy,
   cofB k h.yz h.zx h.yx h.zz, cofB k h.zz h.xx h.zx h.xz, cofB k h.xz h.yx h.xx h.yz,
   cofB k h.yx h.zy h.yy h.zx, cofB k h.zx h.xy h.zy h.xx, cofB k h.xx h.yy h.xy h.yx⟩
theorem detZ_B {k : Int} {m : M3} (h : Bnd k m) : -(3 * (k * (2 * (k * k)))) ≤ detZ m ∧ detZ m ≤ 3 * (k * (2 * (k * k))) :=
  dotB k (2 * (k * k)) h.xx h.xy h.xz (cofB k h.yy h.zz h.yz h.zy) (cofB k h.yz h.zx h.yx h.zz) (cofB k h.yx h.zy h.yy h.zx)
theorem trcZ_B {k : Int} {m : M3} (h : Bnd k m) : -(3 * k) ≤ trcZ m ∧ trcZ m ≤ 3 * k := by
  have h1 := h.xx
  have h2 := h.yy
  have h3 := h.zz
  unfold trcZ; omega
theorem wM_id {k : Int} {m : M3} (hk : k ≤ 9223372036854775807) (h : Bnd k m) : wM m = m := by
  obtain ⟨h1, h2, h3, h4, h5, h6, h7, h8, h9⟩ := h
  unfold wM
  rw [w64_id (by omega) (by omega), w64_id (by omega) (by omega), w64_id (by omega) (by omega), w64_id (by omega) (by omega), w64_id (by omega) (by omega), w64_id (by omega) (by omega), w64_id (by omega) (by omega), w64_id (by omega) (by omega), w64_id (by omega) (by omega)]
theorem okM_B {m : M3} (h : okM m = true) : Bnd 1000 m := by
  simp only [okM, inE, Bool.and_eq_true, decide_eq_true_eq] at h
  obtain ⟨⟨⟨⟨⟨⟨⟨⟨h1, h2⟩, h3⟩, h4⟩, h5⟩, h6⟩, h7⟩, h8⟩, h9⟩ := h
  exact ⟨h1, h2, h3, h4, h5, h6, h7, h8, h9⟩
theorem B_okM {k : Int} {m : M3} (hk : k ≤ 1000) (h : Bnd k m) : okM m = true := by
  obtain ⟨h1, h2, h3, h4, h5, h6, h7, h8, h9⟩ := h
  simp only [okM, inE, Bool.and_eq_true, decide_eq_true_eq]
  exact ⟨⟨⟨⟨⟨⟨⟨⟨by omega, by omega⟩, by omega⟩, by omega⟩, by omega⟩, by omega⟩, by omega⟩, by omega⟩, by omega⟩
theorem errM_ok {m : M3} : errM m = 0 ↔ okM m = true := by
  unfold errM; split <;> simp_all

/-! ### Powers -/
def linZ (a b c : Int) (m : M3) : M3 := M3.mk
  (a * (mulZ m m).xx + b * m.xx + c) (a * (mulZ m m).xy + b * m.xy) (a * (mulZ m m).xz + b * m.xz)
  (a * (mulZ m m).yx + b * m.yx) (a * (mulZ m m).yy + b * m.yy + c) (a * (mulZ m m).yz + b * m.yz)
  (a * (mulZ m m).zx + b * m.zx) (a * (mulZ m m).zy + b * m.zy) (a * (mulZ m m).zz + b * m.zz + c)
def powI (m : M3) : Nat → M3
  | 0 => oneZ 1
  | k + 1 => mulZ (powI m k) m
def sZ (m : M3) : Int := trcZ (adjZ m)
theorem lin_step (a b c : Int) (m : M3) : mulZ (linZ a b c m) m = linZ (a * trcZ m + b) (c - a * sZ m) (a * detZ m) m := by
  simp only [mulZ, linZ, trcZ, sZ, adjZ, detZ, M3.mk.injEq]
  refine ⟨?_, ?_, ?_, ?_, ?_, ?_, ?_, ?_, ?_⟩ <;> grind
def coef (t s d : Int) : Nat → Int × Int × Int
  | 0 => (0, 0, 1)
  | k + 1 => match coef t s d k with
    | (a, b, c) => (a * t + b, c - a * s, a * d)
theorem powI_lin (m : M3) : ∀ k, powI m k = linZ (coef (trcZ m) (sZ m) (detZ m) k).1 (coef (trcZ m) (sZ m) (detZ m) k).2.1 (coef (trcZ m) (sZ m) (detZ m) k).2.2 m
  | 0 => by simp [powI, coef, linZ, oneZ]
  | k + 1 => by
    rw [powI, powI_lin m k, lin_step]
    rfl
/-- The trace of a power. -/
def trp (t s d : Int) (k : Nat) : Int := (coef t s d k).1 * (t * t - 2 * s) + (coef t s d k).2.1 * t + 3 * (coef t s d k).2.2
theorem trc_lin (a b c : Int) (m : M3) : trcZ (linZ a b c m) = a * (trcZ m * trcZ m - 2 * sZ m) + b * trcZ m + 3 * c := by
  simp only [trcZ, linZ, sZ, adjZ, mulZ]
  grind
theorem trc_pow (m : M3) (k : Nat) : trcZ (powI m k) = trp (trcZ m) (sZ m) (detZ m) k := by
  rw [powI_lin, trc_lin]; rfl
theorem mulZ_one (m : M3) : mulZ (oneZ 1) m = m ∧ mulZ m (oneZ 1) = m := by
  cases m; simp [mulZ, oneZ]
theorem mulZ_assoc (a b c : M3) : mulZ (mulZ a b) c = mulZ a (mulZ b c) := by
  simp only [mulZ, M3.mk.injEq]
  refine ⟨?_, ?_, ?_, ?_, ?_, ?_, ?_, ?_, ?_⟩ <;> grind
end Go.Fx
end
section
namespace Go.Fx
open Go

/-! ### Powers modulo three primes are powers -/
theorem resP_mod (p x : Int) : resP p x % p = x % p := by
  have h1 : Int.tmod x p = x - p * Int.tdiv x p := by have := Int.tmod_add_mul_tdiv x p; omega
  unfold resP
  rw [Int.emod_emod_of_dvd _ (Int.dvd_refl p), h1, show x - p * Int.tdiv x p + p = x + p * (1 - Int.tdiv x p) by rw [Int.mul_sub]; omega, Int.add_mul_emod_self_left]
theorem mul_mod' (a x p : Int) (h : resP p x % p = x % p) : (a * resP p x) % p = (a * x) % p := by
  rw [Int.mul_emod, h, ← Int.mul_emod]
theorem dotP_mod {p a b c : Int} (hp : 0 < p) (hq : p ≤ 2147483648) (x y z : Int) (ha : inP p a) (hb : inP p b) (hc : inP p c) : dotP p a b c x y z = (a * x + b * y + c * z) % p := by
  have h1 := mul_in hq ha (resP_in hp x)
  have h2 := mul_in hq hb (resP_in hp y)
  have h3 := mul_in hq hc (resP_in hp z)
  have t1 := tmod_in hp h1.1
  have k1 : 0 ≤ Int.tmod (a * resP p x) p + b * resP p y := Int.add_nonneg t1.1 h2.1
  have t2 := tmod_in hp k1
  have k2 : 0 ≤ Int.tmod (Int.tmod (a * resP p x) p + b * resP p y) p + c * resP p z := Int.add_nonneg t2.1 h3.1
  unfold dotP
  rw [Int.tmod_eq_emod_of_nonneg k2, Int.tmod_eq_emod_of_nonneg k1, Int.tmod_eq_emod_of_nonneg h1.1]
  have f1 := mul_mod' a x p (resP_mod p x)
  have f2 := mul_mod' b y p (resP_mod p y)
  have f3 := mul_mod' c z p (resP_mod p z)
  generalize a * resP p x = u at f1 ⊢
  generalize b * resP p y = v at f2 ⊢
  generalize c * resP p z = t at f3 ⊢
  have g : (v + t) % p = (b * y + c * z) % p := by rw [Int.add_emod, f2, f3, ← Int.add_emod]
  rw [Int.emod_add_emod, Int.add_assoc, Int.emod_add_emod, Int.add_emod, f1, g, ← Int.add_emod, Int.add_assoc]
def modM (p : Int) (m : M3) : M3 := M3.mk (m.xx % p) (m.xy % p) (m.xz % p) (m.yx % p) (m.yy % p) (m.yz % p) (m.zx % p) (m.zy % p) (m.zz % p)
theorem dot_modl (a b c x y z p : Int) : ((a % p) * x + (b % p) * y + (c % p) * z) % p = (a * x + b * y + c * z) % p := by
  have h : ∀ u v : Int, (u % p) * v = u * v + p * (-(u / p) * v) := fun u v => by
    have := Int.emod_def u p
    rw [this]; grind
  rw [h, h, h, show a * x + p * (-(a / p) * x) + (b * y + p * (-(b / p) * y)) + (c * z + p * (-(c / p) * z)) = a * x + b * y + c * z + p * (-(a / p) * x + -(b / p) * y + -(c / p) * z) by grind, Int.add_mul_emod_self_left]
theorem stepP_mod {p : Int} (hp : 1 < p) (hq : p ≤ 2147483648) (m : M3) {c : M3} (h : allP p c) : stepP p m c = modM p (mulZ c m) := by
  obtain ⟨⟨a1, a2, a3⟩, ⟨b1, b2, b3⟩, c1, c2, c3⟩ := h
  have h0 : 0 < p := by omega
  simp only [stepP, modM, mulZ, M3.mk.injEq]
  exact ⟨dotP_mod h0 hq _ _ _ a1 a2 a3, dotP_mod h0 hq _ _ _ a1 a2 a3, dotP_mod h0 hq _ _ _ a1 a2 a3, dotP_mod h0 hq _ _ _ b1 b2 b3, dotP_mod h0 hq _ _ _ b1 b2 b3, dotP_mod h0 hq _ _ _ b1 b2 b3,
    dotP_mod h0 hq _ _ _ c1 c2 c3, dotP_mod h0 hq _ _ _ c1 c2 c3, dotP_mod h0 hq _ _ _ c1 c2 c3⟩
theorem modM_mul (p : Int) (c m : M3) : modM p (mulZ (modM p c) m) = modM p (mulZ c m) := by
  simp only [modM, mulZ, dot_modl]
theorem powP_powI {p : Int} (hp : 1 < p) (hq : p ≤ 2147483648) (m : M3) : ∀ k, powP p m k = modM p (powI m k)
  | 0 => by
    have h0 : (0 : Int) % p = 0 := Int.zero_emod p
    have h1 : (1 : Int) % p = 1 := Int.emod_eq_of_lt (by omega) (by omega)
    simp [powP, powI, modM, oneZ, h0, h1]
  | k + 1 => by
    rw [powP, stepP_mod hp hq m (powP_in hp hq m k), powP_powI hp hq m k, modM_mul]
    rfl
theorem dvd3g {p q r : Nat} {x : Int} (c12 : Nat.Coprime p q) (c123 : Nat.Coprime (p * q) r) (h1 : (p : Int) ∣ x) (h2 : (q : Int) ∣ x) (h3 : (r : Int) ∣ x) (hb : x.natAbs < p * q * r) : x = 0 := by
  have e1 := Nat.Coprime.mul_dvd_of_dvd_of_dvd c12 (by have := Int.natAbs_dvd_natAbs.2 h1; rwa [Int.natAbs_natCast] at this) (by have := Int.natAbs_dvd_natAbs.2 h2; rwa [Int.natAbs_natCast] at this)
  have e2 := Nat.Coprime.mul_dvd_of_dvd_of_dvd c123 e1 (by have := Int.natAbs_dvd_natAbs.2 h3; rwa [Int.natAbs_natCast] at this)
  exact Int.natAbs_eq_zero.1 (Nat.eq_zero_of_dvd_of_lt e2 hb)
theorem dvd3 {x : Int} (h1 : x % 2147483647 = 0) (h2 : x % 2147483629 = 0) (h3 : x % 2147483587 = 0) (hb : x.natAbs < 1000000000000000000000000) : x = 0 := by
  refine dvd3g (p := 2147483647) (q := 2147483629) (r := 2147483587) (by decide +kernel) (by decide +kernel) ?_ ?_ ?_ ?_
  · exact Int.dvd_of_emod_eq_zero h1
  · exact Int.dvd_of_emod_eq_zero h2
  · exact Int.dvd_of_emod_eq_zero h3
  · exact Nat.lt_of_lt_of_le hb (by decide)
def bigB : Nat → Int
  | 0 => 1
  | k + 1 => 3 * (bigB k * 1000)
theorem one_B : Bnd 1 (oneZ 1) := by refine ⟨?_, ?_, ?_, ?_, ?_, ?_, ?_, ?_, ?_⟩ <;> decide
theorem powI_B {m : M3} (h : Bnd 1000 m) : ∀ k, Bnd (bigB k) (powI m k)
  | 0 => one_B
  | k + 1 => mulZ_B (powI_B h k) h
theorem bigB_le {k : Nat} (h : k ≤ 6) : bigB k < 100000000000000000000000 := by
  match k, h with
  | 0, _ | 1, _ | 2, _ | 3, _ | 4, _ | 5, _ | 6, _ => decide
theorem mod_sub {p x y : Int} (h : x % p = y) : (x - y) % p = 0 := by
  have e : x - y = p * (x / p) := by rw [← h, Int.emod_def]; omega
  rw [e, Int.mul_emod_right]
theorem three_eq {B x y : Int} (hl : B < 100000000000000000000000) (b : -B ≤ x ∧ x ≤ B) (hy : y = 0 ∨ y = 1) (r1 : x % 2147483647 = y) (r2 : x % 2147483629 = y) (r3 : x % 2147483587 = y) : x = y := by
  have h := dvd3 (mod_sub r1) (mod_sub r2) (mod_sub r3)
  clear r1 r2 r3
  have := h (by omega)
  omega
theorem modM_ext {p : Int} {q : M3} (h : modM p q = oneZ 1) : (q.xx % p = 1 ∧ q.xy % p = 0 ∧ q.xz % p = 0) ∧ (q.yx % p = 0 ∧ q.yy % p = 1 ∧ q.yz % p = 0) ∧ (q.zx % p = 0 ∧ q.zy % p = 0 ∧ q.zz % p = 1) := by
  simp only [modM, oneZ, M3.mk.injEq] at h
  obtain ⟨h1, h2, h3, h4, h5, h6, h7, h8, h9⟩ := h
  exact ⟨⟨h1, h2, h3⟩, ⟨h4, h5, h6⟩, h7, h8, h9⟩
theorem three_one {B : Int} (hl : B < 100000000000000000000000) {q : M3} (hb : Bnd B q) (h1 : modM 2147483647 q = oneZ 1) (h2 : modM 2147483629 q = oneZ 1) (h3 : modM 2147483587 q = oneZ 1) : q = oneZ 1 := by
  obtain ⟨⟨a1, a2, a3⟩, ⟨a4, a5, a6⟩, a7, a8, a9⟩ := modM_ext h1
  obtain ⟨⟨b1, b2, b3⟩, ⟨b4, b5, b6⟩, b7, b8, b9⟩ := modM_ext h2
  obtain ⟨⟨c1, c2, c3⟩, ⟨c4, c5, c6⟩, c7, c8, c9⟩ := modM_ext h3
  have e1 := three_eq hl hb.xx (.inr rfl) a1 b1 c1
  have e2 := three_eq hl hb.xy (.inl rfl) a2 b2 c2
  have e3 := three_eq hl hb.xz (.inl rfl) a3 b3 c3
  have e4 := three_eq hl hb.yx (.inl rfl) a4 b4 c4
  have e5 := three_eq hl hb.yy (.inr rfl) a5 b5 c5
  have e6 := three_eq hl hb.yz (.inl rfl) a6 b6 c6
  have e7 := three_eq hl hb.zx (.inl rfl) a7 b7 c7
  have e8 := three_eq hl hb.zy (.inl rfl) a8 b8 c8
  have e9 := three_eq hl hb.zz (.inr rfl) a9 b9 c9
  clear hl hb h1 h2 h3 a1 a2 a3 a4 a5 a6 a7 a8 a9 b1 b2 b3 b4 b5 b6 b7 b8 b9 c1 c2 c3 c4 c5 c6 c7 c8 c9
  cases q
  simp only [oneZ, M3.mk.injEq]
  exact ⟨e1, e2, e3, e4, e5, e6, e7, e8, e9⟩
theorem modM_one {p : Int} (hp : 1 < p) : modM p (oneZ 1) = oneZ 1 := by
  have h0 : (0 : Int) % p = 0 := Int.zero_emod p
  have h1 : (1 : Int) % p = 1 := Int.emod_eq_of_lt (by omega) (by omega)
  simp [modM, oneZ, h0, h1]
theorem powZ_iff {m : M3} (h : Bnd 1000 m) {n : Int} (h6 : n ≤ 6) : powZ m n = true ↔ powI m n.toNat = oneZ 1 := by
  have hb := powI_B h n.toNat
  have hl := bigB_le (k := n.toNat) (by omega)
  simp only [powZ, Bool.and_eq_true, eqM_iff]
  rw [powP_powI (by decide) (by decide), powP_powI (by decide) (by decide), powP_powI (by decide) (by decide)]
  generalize powI m n.toNat = q at hb ⊢
  constructor
  · rintro ⟨h1, h2, h3⟩
    exact three_one hl hb h1 h2 h3
  · rintro rfl
    exact ⟨modM_one (by decide), modM_one (by decide), modM_one (by decide)⟩

/-! ### Which powers are the identity -/
def isOne (m : M3) : Prop := m = oneZ 1
theorem tr_one {m : M3} {k : Nat} (h : powI m k = oneZ 1) : trp (trcZ m) (sZ m) (detZ m) k = 3 ∧ trp (trcZ m) (sZ m) (detZ m) (k + 1) = trcZ m := by
  constructor
  · rw [← trc_pow, h]; rfl
  · rw [← trc_pow, powI, h, (mulZ_one m).1]
theorem powI_one (m : M3) : powI m 1 = m := by rw [powI, powI, (mulZ_one m).1]
theorem powI_two (m : M3) : powI m 2 = mulZ m m := by rw [powI, powI_one]
/-- The order that the characteristic polynomial tells. -/
def rordX (m : M3) : Int := if eqM m (oneZ 1) = true then 1 else if eqM (mulZ m m) (oneZ 1) = true then 2 else rordC (trcZ m) (sZ m) (detZ m)
theorem det_one_s {m : M3} (h : mulZ m m = oneZ 1) : (1 + sZ m) * m.xy = 0 ∧ (1 + sZ m) * m.xz = 0 ∧ (1 + sZ m) * m.yx = 0 ∧ (1 + sZ m) * m.yz = 0 ∧ (1 + sZ m) * m.zx = 0 ∧ (1 + sZ m) * m.zy = 0 ∧
    (1 + sZ m) * m.xx = trcZ m + detZ m ∧ (1 + sZ m) * m.yy = trcZ m + detZ m ∧ (1 + sZ m) * m.zz = trcZ m + detZ m := by
  have h3 : powI m 3 = m := by
    show mulZ (powI m 2) m = m
    rw [powI_two, h, (mulZ_one m).1]
  rw [powI_lin] at h3
  simp only [coef] at h3
  have c := h3
  unfold linZ at c
  rw [h] at c
  generalize sZ m = s at c ⊢
  generalize trcZ m = t at c ⊢
  generalize detZ m = d at c ⊢
  cases m
  simp only [oneZ, M3.mk.injEq] at c ⊢
  grind
theorem scalar_case {m : M3} (h : mulZ m m = oneZ 1) (h1 : m ≠ oneZ 1) (hd : detZ m = 1 ∨ detZ m = -1) : detZ m * trcZ m = -1 ∨ (detZ m = -1 ∧ trcZ m = -3) := by
  obtain ⟨a1, a2, a3, a4, a5, a6, a7, a8, a9⟩ := det_one_s h
  by_cases hs : 1 + sZ m = 0
  · rw [hs] at a7
    left
    rcases hd with e | e <;> rw [e] at a7 ⊢ <;> omega
  · right
    have z : ∀ x : Int, (1 + sZ m) * x = 0 → x = 0 := fun x hx => (Int.mul_eq_zero.1 hx).resolve_left hs
    have e1 := z _ a1
    have e2 := z _ a2
    have e3 := z _ a3
    have e4 := z _ a4
    have e5 := z _ a5
    have e6 := z _ a6
    have e7 : m.yy = m.xx := by have := z (m.yy - m.xx) (by rw [Int.mul_sub, a8, a7]; omega); omega
    have e8 : m.zz = m.xx := by have := z (m.zz - m.xx) (by rw [Int.mul_sub, a9, a7]; omega); omega
    have hx : m.xx * m.xx = 1 := by
      have := congrArg M3.xx h
      simp only [mulZ, oneZ, e1, e2, Int.zero_mul, Int.add_zero] at this
      exact this
    have hx1 : m.xx = 1 ∨ m.xx = -1 := by
      have : (m.xx - 1) * (m.xx + 1) = 0 := by grind
      rcases Int.mul_eq_zero.1 this with h | h <;> omega
    rcases hx1 with hx1 | hx1
    · exfalso; apply h1
      cases m
      simp only [oneZ, M3.mk.injEq] at *
      exact ⟨hx1, e1, e2, e3, by omega, e4, e5, e6, by omega⟩
    · refine ⟨?_, ?_⟩
      · unfold detZ; rw [e1, e2, e3, e4, e5, e6, e7, e8, hx1]; decide
      · unfold trcZ; rw [e7, e8, hx1]; decide
/-- A power that is the identity, at the place that the code's table names: the polynomial is among those that the document names. -/
theorem table_rord {m : M3} (hd : detZ m = 1 ∨ detZ m = -1) :
    (detZ m * trcZ m = 0 → detZ m = 1 → powI m 3 = oneZ 1 → rordC (trcZ m) (sZ m) (detZ m) = 3) ∧ (detZ m * trcZ m = 0 → detZ m = -1 → powI m 6 = oneZ 1 → rordC (trcZ m) (sZ m) (detZ m) = 6) ∧
    (detZ m * trcZ m = 1 → powI m 4 = oneZ 1 → rordC (trcZ m) (sZ m) (detZ m) = 4) ∧ (detZ m * trcZ m = 2 → powI m 6 = oneZ 1 → rordC (trcZ m) (sZ m) (detZ m) = 6) := by
  have sq : ∀ x : Int, x * x = 0 → x = 0 := fun x hx => by rcases Int.mul_eq_zero.1 hx with h | h <;> exact h
  refine ⟨fun ht hd h => ?_, fun ht hd h => ?_, fun ht h => ?_, fun ht h => ?_⟩
  · obtain ⟨p1, p2⟩ := tr_one h
    have ht' : trcZ m = 0 := by rw [hd] at ht; omega
    rw [ht', hd] at p2 ⊢
    generalize sZ m = s at p2 ⊢
    simp only [trp, coef] at p2
    have : s * s = 0 := by grind
    rw [sq s this]; decide
  · obtain ⟨p1, p2⟩ := tr_one h
    have ht' : trcZ m = 0 := by rw [hd] at ht; omega
    rw [ht', hd] at p1 ⊢
    generalize sZ m = s at p1 ⊢
    simp only [trp, coef] at p1
    have : s * (s * s) = 0 := by grind
    have hs : s = 0 := by
      rcases Int.mul_eq_zero.1 this with h | h
      · exact h
      · exact sq s h
    rw [hs]; decide
  · obtain ⟨p1, p2⟩ := tr_one h
    rcases hd with hd | hd
    · have ht' : trcZ m = 1 := by rw [hd] at ht; omega
      rw [ht', hd] at p1 ⊢
      generalize sZ m = s at p1 ⊢
      simp only [trp, coef] at p1
      have : (s - 1) * (s - 1) = 0 := by grind
      have hs : s = 1 := by have := sq _ this; omega
      rw [hs]; decide
    · have ht' : trcZ m = -1 := by rw [hd] at ht; omega
      rw [ht', hd] at p1 ⊢
      generalize sZ m = s at p1 ⊢
      simp only [trp, coef] at p1
      have : (s - 1) * (s - 1) = 0 := by grind
      have hs : s = 1 := by have := sq _ this; omega
      rw [hs]; decide
  · obtain ⟨p1, p2⟩ := tr_one h
    have key : ∀ s : Int, s = 2 ∨ s = 14 ↔ (s - 2) * (s - 14) = 0 := fun s => by
      rw [Int.mul_eq_zero]; omega
    rcases hd with hd | hd
    · have ht' : trcZ m = 2 := by rw [hd] at ht; omega
      rw [ht', hd] at p1 p2 ⊢
      generalize sZ m = s at p1 p2 ⊢
      simp only [trp, coef] at p1 p2
      have : (s - 2) * ((s - 2) * (s - 14)) = 0 := by grind
      have hs : s = 2 ∨ s = 14 := by
        rcases Int.mul_eq_zero.1 this with h | h
        · exact .inl (by omega)
        · exact (key s).2 h
      rcases hs with hs | hs
      · rw [hs]; decide
      · subst hs; exact absurd p2 (by decide)
    · have ht' : trcZ m = -2 := by rw [hd] at ht; omega
      rw [ht', hd] at p1 p2 ⊢
      generalize sZ m = s at p1 p2 ⊢
      simp only [trp, coef] at p1 p2
      have : (s - 2) * ((s - 2) * (s - 14)) = 0 := by grind
      have hs : s = 2 ∨ s = 14 := by
        rcases Int.mul_eq_zero.1 this with h | h
        · exact .inl (by omega)
        · exact (key s).2 h
      rcases hs with hs | hs
      · rw [hs]; decide
      · subst hs; exact absurd p2 (by decide)

/-! ### The code's order -/
theorem uniE_ok {m : M3} (h : uniE m = 0) : Bnd 1000 m ∧ w64 (detZ m) = detZ m ∧ (detZ m = 1 ∨ detZ m = -1) := by
  have he : errM m = 0 := by
    rcases errM_cases m with h4 | h4
    · exact h4
    · unfold uniE at h; rw [if_neg (by rw [h4]; decide), h4] at h; exact absurd h (by decide)
  have hB := okM_B (errM_ok.1 he)
  have hdB := detZ_B hB
  have hw : w64 (detZ m) = detZ m := w64_id (by omega) (by omega)
  unfold uniE at h
  rw [if_pos he, hw] at h
  refine ⟨hB, hw, ?_⟩
  split at h
  · assumption
  · exact absurd h (by decide)
theorem uniE_errM {m : M3} (h : uniE m = 0) : errM m = 0 := errM_ok.2 (B_okM (Int.le_refl _) (uniE_ok h).1)
theorem uniE_of {m : M3} (h : Bnd 1000 m) (hd : detZ m = 1 ∨ detZ m = -1) : uniE m = 0 := by
  have hdB := detZ_B h
  unfold uniE
  rw [if_pos (errM_ok.2 (B_okM (Int.le_refl _) h)), w64_id (by omega) (by omega), if_pos hd]
theorem ordD_eq {m : M3} (h : uniE m = 0) : ordD m = detZ m := by
  unfold ordD selI; rw [if_pos h, (uniE_ok h).2.1]
theorem ordT_eq {m : M3} (h : uniE m = 0) : ordT m = detZ m * trcZ m := by
  obtain ⟨hB, _, hd⟩ := uniE_ok h
  have h1 := hB.xx
  have h2 := hB.yy
  have h3 := hB.zz
  unfold ordT
  rw [ordD_eq h, w64_id (x := m.xx + m.yy) (by omega) (by omega), w64_id (x := m.xx + m.yy + m.zz) (by omega) (by omega)]
  show w64 (detZ m * trcZ m) = _
  have h4 : trcZ m = m.xx + m.yy + m.zz := rfl
  rcases hd with e | e <;> rw [e] <;> exact w64_id (by omega) (by omega)
theorem rordZ_eq {m : M3} (h : uniE m = 0) : rordZ m = rordX m := by
  obtain ⟨hB, hw, _⟩ := uniE_ok h
  have h1 := wM_id (by decide) (mulZ_B hB hB)
  have h2 := wM_id (by decide) (adjZ_B hB)
  have h3 := trcZ_B hB
  have h4 := trcZ_B (adjZ_B hB)
  unfold rordZ rordX
  rw [h1, h2, hw, w64_id (x := trcZ m) (by omega) (by omega), w64_id (x := trcZ (adjZ m)) (by omega) (by omega)]
  rfl
theorem powZ_is {m : M3} (h : Bnd 1000 m) (k : Nat) (h6 : k ≤ 6) : powZ m (k : Int) = true ↔ powI m k = oneZ 1 := by
  have := powZ_iff h (n := (k : Int)) (by omega)
  rwa [Int.toNat_natCast] at this
theorem powZ_isnt {m : M3} (h : Bnd 1000 m) (k : Nat) (h6 : k ≤ 6) (hp : powI m k ≠ oneZ 1) : powZ m (k : Int) = false := by
  rw [Bool.eq_false_iff]; exact fun e => hp ((powZ_is h k h6).1 e)
theorem ordN_val {m : M3} (h : uniE m = 0) {b n : Int} (hb : mgetD eqI ordMap (detZ m * trcZ m) = b) (hn : (if detZ m < 0 then (if Int.tmod b 2 = 1 then w64 (b * 2) else b) else b) = n) : ordN m = n := by
  unfold ordN ordB; rw [ordD_eq h, ordT_eq h, hb, hn]
theorem mhas_val {m : M3} (h : uniE m = 0) : mhas eqI ordMap (ordT m) = mhas eqI ordMap (detZ m * trcZ m) := by rw [ordT_eq h]
/-- What the code finds, if its table's power is the identity. -/
theorem ordR_found {m : M3} (h : uniE m = 0) {n r : Int} (hm : mhas eqI ordMap (detZ m * trcZ m) = true) (hn : ordN m = n) (hp : powZ m n = true) (hk : ordK m n 6 1 = r) : ordR m = (r, 0) := by
  unfold ordR; rw [if_pos h, mhas_val h, if_pos hm, hn, if_pos hp, hk]
theorem ordR_eq {m : M3} (h : uniE m = 0) : ordR m = (rordX m, if rordX m = 0 then 9 else 0) := by
  obtain ⟨hB, hw, hd⟩ := uniE_ok h
  by_cases h1 : m = oneZ 1
  · have e1 : rordX m = 1 := by unfold rordX; rw [if_pos (eqM_iff.2 h1)]
    rw [e1]
    have ht : detZ m * trcZ m = 3 := by rw [h1]; decide
    have hdd : detZ m = 1 := by rw [h1]; decide
    refine ordR_found h (n := 1) (by rw [ht]; decide) (ordN_val h (b := 1) (by rw [ht]; decide) (by rw [hdd]; decide)) ((powZ_is hB 1 (by decide)).2 (by rw [powI_one]; exact h1)) ?_
    unfold ordK; rw [if_neg (by decide)]
  have f1 : powZ m 1 = false := powZ_isnt hB 1 (by decide) (by rw [powI_one]; exact h1)
  have n1 : ∀ n, ordHit m n 1 = false := fun n => by unfold ordHit; rw [f1, Bool.and_false]
  have x1 : eqM m (oneZ 1) ≠ true := fun e => h1 (eqM_iff.1 e)
  by_cases h2 : mulZ m m = oneZ 1
  · have e1 : rordX m = 2 := by unfold rordX; rw [if_neg x1, if_pos (eqM_iff.2 h2)]
    rw [e1]
    have hk : ordK m 2 6 1 = 2 := by
      rw [ordK, if_pos (by decide), n1, if_neg (by decide), ordK, if_neg (by decide)]
    have hp : powZ m 2 = true := (powZ_is hB 2 (by decide)).2 (by rw [powI_two]; exact h2)
    rcases scalar_case h2 h1 hd with ht | ⟨hdd, ht⟩
    · refine ordR_found h (n := 2) (by rw [ht]; decide) (ordN_val h (b := 2) (by rw [ht]; decide) ?_) hp hk
      rcases hd with e | e <;> rw [e] <;> decide
    · refine ordR_found h (n := 2) (by rw [ht, hdd]; decide) (ordN_val h (b := 1) (by rw [ht, hdd]; decide) (by rw [hdd]; decide)) hp hk
  have f2 : powZ m 2 = false := powZ_isnt hB 2 (by decide) (by rw [powI_two]; exact h2)
  have n2 : ∀ n, ordHit m n 2 = false := fun n => by unfold ordHit; rw [f2, Bool.and_false]
  have x2 : eqM (mulZ m m) (oneZ 1) ≠ true := fun e => h2 (eqM_iff.1 e)
  have er : rordX m = rordC (trcZ m) (sZ m) (detZ m) := by unfold rordX; rw [if_neg x1, if_neg x2]
  have tmods : Int.tmod 3 2 = 1 ∧ Int.tmod 4 3 = 1 ∧ Int.tmod 6 4 = 2 ∧ Int.tmod 6 5 = 1 := by decide
  have k3 : ordK m 3 6 1 = 3 := by
    rw [ordK, if_pos (by decide), n1, if_neg (by decide), ordK, if_pos (by decide), show (1 : Int) + 1 = 2 by decide, n2, if_neg (by decide), ordK, if_neg (by decide)]
  have k4 : ordK m 4 6 1 = 4 := by
    have n3 : ordHit m 4 3 = false := by unfold ordHit; rw [tmods.2.1]; rfl
    rw [ordK, if_pos (by decide), n1, if_neg (by decide), ordK, if_pos (by decide), show (1 : Int) + 1 = 2 by decide, n2, if_neg (by decide), ordK, if_pos (by decide), show (2 : Int) + 1 = 3 by decide, n3, if_neg (by decide), ordK, if_neg (by decide)]
  have k6 : powI m 3 ≠ oneZ 1 → ordK m 6 6 1 = 6 := fun h3 => by
    have f3 : powZ m 3 = false := powZ_isnt hB 3 (by decide) h3
    have n3 : ordHit m 6 3 = false := by unfold ordHit; rw [f3, Bool.and_false]
    have n4 : ordHit m 6 4 = false := by unfold ordHit; rw [tmods.2.2.1]; rfl
    have n5 : ordHit m 6 5 = false := by unfold ordHit; rw [tmods.2.2.2]; rfl
    rw [ordK, if_pos (by decide), n1, if_neg (by decide), ordK, if_pos (by decide), show (1 : Int) + 1 = 2 by decide, n2, if_neg (by decide), ordK, if_pos (by decide), show (2 : Int) + 1 = 3 by decide, n3, if_neg (by decide), ordK, if_pos (by decide), show (3 : Int) + 1 = 4 by decide, n4, if_neg (by decide), ordK, if_pos (by decide), show (4 : Int) + 1 = 5 by decide, n5, if_neg (by decide), ordK, if_neg (by decide)]
  have lin_one : ∀ k, coef (trcZ m) (sZ m) (detZ m) k = (0, 0, 1) → powI m k = oneZ 1 := fun k hk => by
    rw [powI_lin, hk]; simp [linZ, oneZ]
  rw [er]
  have found : ∀ (n : Nat) (b : Int), n ≤ 6 → mgetD eqI ordMap (detZ m * trcZ m) = b → mhas eqI ordMap (detZ m * trcZ m) = true → (if detZ m < 0 then (if Int.tmod b 2 = 1 then w64 (b * 2) else b) else b) = (n : Int) → powI m n = oneZ 1 → ordK m n 6 1 = n → ordR m = ((n : Int), 0) := fun n b hn hb hm hv hp hk =>
    ordR_found h (n := (n : Int)) hm (ordN_val h hb hv) ((powZ_is hB n hn).2 hp) hk
  have tr3 : ∀ k : Nat, powI m k = oneZ 1 → trp (trcZ m) (sZ m) (detZ m) k = 3 := fun k hk => (tr_one hk).1
  generalize hC : rordC (trcZ m) (sZ m) (detZ m) = r
  unfold rordC at hC
  split at hC
  · rename_i e
    obtain ⟨e1, e2, e3⟩ := e
    subst hC
    exact found 3 3 (by decide) (by rw [e1, e3]; decide) (by rw [e1, e3]; decide) (by rw [e3]; decide) (lin_one 3 (by rw [e1, e2, e3]; decide)) k3
  · split at hC
    · rename_i e
      subst hC
      rcases e with ⟨e1, e2, e3⟩ | ⟨e1, e2, e3⟩ <;> exact found 4 4 (by decide) (by rw [e1, e3]; decide) (by rw [e1, e3]; decide) (by rw [e3]; decide) (lin_one 4 (by rw [e1, e2, e3]; decide)) k4
    · split at hC
      · rename_i e
        subst hC
        rcases e with ⟨e1, e2, e3⟩ | ⟨e1, e2, e3⟩ | ⟨e1, e2, e3⟩
        · exact found 6 3 (by decide) (by rw [e1, e3]; decide) (by rw [e1, e3]; decide) (by rw [e3]; decide) (lin_one 6 (by rw [e1, e2, e3]; decide)) (k6 fun h3 => absurd (tr3 3 h3) (by rw [e1, e2, e3]; decide))
        · exact found 6 6 (by decide) (by rw [e1, e3]; decide) (by rw [e1, e3]; decide) (by rw [e3]; decide) (lin_one 6 (by rw [e1, e2, e3]; decide)) (k6 fun h3 => absurd (tr3 3 h3) (by rw [e1, e2, e3]; decide))
        · exact found 6 6 (by decide) (by rw [e1, e3]; decide) (by rw [e1, e3]; decide) (by rw [e3]; decide) (lin_one 6 (by rw [e1, e2, e3]; decide)) (k6 fun h3 => absurd (tr3 3 h3) (by rw [e1, e2, e3]; decide))
      · rename_i c3 c4 c6
        subst hC
        have hC : rordC (trcZ m) (sZ m) (detZ m) = 0 := by unfold rordC; rw [if_neg c3, if_neg c4, if_neg c6]
        obtain ⟨q1, q2, q3, q4⟩ := table_rord hd
        show ordR m = (0, 9)
        unfold ordR
        rw [if_pos h, mhas_val h]
        split
        · rename_i hm
          rw [if_neg]
          intro hp
          have hN : ∀ {b : Int} {n : Nat}, n ≤ 6 → mgetD eqI ordMap (detZ m * trcZ m) = b → (if detZ m < 0 then (if Int.tmod b 2 = 1 then w64 (b * 2) else b) else b) = (n : Int) → powI m n = oneZ 1 := fun {b n} hn hb hv => by
            rw [ordN_val h hb hv] at hp
            exact (powZ_is hB n hn).1 hp
          have hx : detZ m * trcZ m = 3 ∨ detZ m * trcZ m = 2 ∨ detZ m * trcZ m = 1 ∨ detZ m * trcZ m = 0 ∨ detZ m * trcZ m = -1 := by
            unfold mhas at hm
            generalize detZ m * trcZ m = x at hm
            simp only [ordMap, mfind, eqI, decide_eq_true_eq] at hm
            by_cases e1 : (3 : Int) = x
            · exact .inl e1.symm
            by_cases e2 : (2 : Int) = x
            · exact .inr (.inl e2.symm)
            by_cases e3 : (1 : Int) = x
            · exact .inr (.inr (.inl e3.symm))
            by_cases e4 : (0 : Int) = x
            · exact .inr (.inr (.inr (.inl e4.symm)))
            by_cases e5 : (-1 : Int) = x
            · exact .inr (.inr (.inr (.inr e5.symm)))
            rw [if_neg e1, if_neg e2, if_neg e3, if_neg e4, if_neg e5] at hm
            cases hm
          have no1 : powI m 1 ≠ oneZ 1 := by rw [powI_one]; exact h1
          have no2 : powI m 2 ≠ oneZ 1 := by rw [powI_two]; exact h2
          rcases hx with e | e | e | e | e
          · rcases hd with hd | hd
            · exact no1 (hN (b := 1) (n := 1) (by decide) (by rw [e]; decide) (by rw [hd]; decide))
            · exact no2 (hN (b := 1) (n := 2) (by decide) (by rw [e]; decide) (by rw [hd]; decide))
          · have := q4 e (hN (b := 6) (n := 6) (by decide) (by rw [e]; decide) (by rcases hd with hd | hd <;> rw [hd] <;> decide))
            rw [hC] at this; exact absurd this (by decide)
          · have := q3 e (hN (b := 4) (n := 4) (by decide) (by rw [e]; decide) (by rcases hd with hd | hd <;> rw [hd] <;> decide))
            rw [hC] at this; exact absurd this (by decide)
          · rcases hd with hd | hd
            · have := q1 e hd (hN (b := 3) (n := 3) (by decide) (by rw [e]; decide) (by rw [hd]; decide))
              rw [hC] at this; exact absurd this (by decide)
            · have := q2 e hd (hN (b := 3) (n := 6) (by decide) (by rw [e]; decide) (by rw [hd]; decide))
              rw [hC] at this; exact absurd this (by decide)
          · exact no2 (hN (b := 2) (n := 2) (by decide) (by rw [e]; decide) (by rcases hd with hd | hd <;> rw [hd] <;> decide))
        · rfl
theorem ord_doc (m : M3) : ordZ m = docO m ∧ ordE m = docE m := by
  unfold ordZ ordE docO docE
  by_cases h : uniE m = 0
  · rw [if_pos h, if_pos h, ordR_eq h, rordZ_eq h]; exact ⟨rfl, rfl⟩
  · unfold ordR; rw [if_neg h, if_neg h, if_neg h]; exact ⟨rfl, rfl⟩
end Go.Fx
end
section
namespace Go.Fx
open Go

theorem tmod_B {k x : Int} (hk : 0 ≤ k) : -k ≤ Int.tmod x (k + 1) ∧ Int.tmod x (k + 1) ≤ k := by
  have hr : (x.tmod (k + 1)).natAbs < (k + 1).natAbs := by rw [Int.natAbs_tmod]; exact Nat.mod_lt _ (by omega)
  omega
theorem tamM_B {k : Int} (hk : 0 ≤ k) (m : M3) : Bnd k (tamM k m) :=
  ⟨tmod_B hk, tmod_B hk, tmod_B hk, tmod_B hk, tmod_B hk, tmod_B hk, tmod_B hk, tmod_B hk, tmod_B hk⟩
theorem adj_r (m : M3) : mulZ m (adjZ m) = oneZ (detZ m) := by
  simp only [mulZ, adjZ, oneZ, detZ, M3.mk.injEq]
  refine ⟨?_, ?_, ?_, ?_, ?_, ?_, ?_, ?_, ?_⟩ <;> grind
theorem adj_l (m : M3) : mulZ (adjZ m) m = oneZ (detZ m) := by
  simp only [mulZ, adjZ, oneZ, detZ, M3.mk.injEq]
  refine ⟨?_, ?_, ?_, ?_, ?_, ?_, ?_, ?_, ?_⟩ <;> grind
theorem sca_l (n : Int) (a b : M3) : mulZ (scaZ n a) b = scaZ n (mulZ a b) := by
  simp only [mulZ, scaZ, M3.mk.injEq]
  refine ⟨?_, ?_, ?_, ?_, ?_, ?_, ?_, ?_, ?_⟩ <;> grind
theorem sca_r (n : Int) (a b : M3) : mulZ a (scaZ n b) = scaZ n (mulZ a b) := by
  simp only [mulZ, scaZ, M3.mk.injEq]
  refine ⟨?_, ?_, ?_, ?_, ?_, ?_, ?_, ?_, ?_⟩ <;> grind
theorem sca_one (n k : Int) : scaZ n (oneZ k) = oneZ (k * n) := by
  simp [scaZ, oneZ]
def invZ (m : M3) : M3 := scaZ (detZ m) (adjZ m)
theorem unit_sq {d : Int} (h : d = 1 ∨ d = -1) : d * d = 1 := by rcases h with rfl | rfl <;> rfl
theorem inv_r {m : M3} (h : detZ m = 1 ∨ detZ m = -1) : mulZ m (invZ m) = oneZ 1 := by
  unfold invZ; rw [sca_r, adj_r, sca_one, unit_sq h]
theorem inv_l {m : M3} (h : detZ m = 1 ∨ detZ m = -1) : mulZ (invZ m) m = oneZ 1 := by
  unfold invZ; rw [sca_l, adj_l, sca_one, unit_sq h]
theorem powI_add (m : M3) (a : Nat) : ∀ b, powI m (a + b) = mulZ (powI m a) (powI m b)
  | 0 => (mulZ_one _).2.symm
  | b + 1 => by rw [← Nat.add_assoc, powI, powI_add m a b, mulZ_assoc]; rfl
theorem powI_mul {m : M3} {n : Nat} (h : powI m n = oneZ 1) (r : Nat) : ∀ q, powI m (n * q + r) = powI m r
  | 0 => by rw [Nat.mul_zero, Nat.zero_add]
  | q + 1 => by
    rw [Nat.mul_succ, show n * q + n + r = n + (n * q + r) by omega, powI_add, h, (mulZ_one _).1]
    exact powI_mul h r q
theorem pow_iff {m : M3} {n : Nat} (hn : 1 ≤ n) (h : powI m n = oneZ 1) (hj : ∀ j, 1 ≤ j → j < n → powI m j ≠ oneZ 1) (k : Nat) : powI m k = oneZ 1 ↔ k % n = 0 := by
  have e : powI m k = powI m (k % n) := by
    have := powI_mul h (k % n) (k / n)
    rwa [Nat.div_add_mod] at this
  rw [e]
  constructor
  · intro h1
    by_cases h0 : k % n = 0
    · exact h0
    · exact absurd h1 (hj _ (by omega) (Nat.mod_lt _ (by omega)))
  · intro h0; rw [h0]; rfl
theorem tr_not {m : M3} {k : Nat} {t s d : Int} (h1 : trcZ m = t) (h2 : sZ m = s) (h3 : detZ m = d) (h : trp t s d k ≠ 3) : powI m k ≠ oneZ 1 := fun e => h (by have := (tr_one e).1; rwa [h1, h2, h3] at this)
/-- The order that is told is the least. -/
theorem min_order {m : M3} (hr : rordX m ≠ 0) : ∃ n : Nat, rordX m = n ∧ 1 ≤ n ∧ n ≤ 6 ∧ n ≠ 5 ∧ powI m n = oneZ 1 ∧ ∀ j, 1 ≤ j → j < n → powI m j ≠ oneZ 1 := by
  by_cases h1 : m = oneZ 1
  · exact ⟨1, by unfold rordX; rw [if_pos (eqM_iff.2 h1)]; rfl, by decide, by decide, by decide, by rw [powI_one]; exact h1, fun j a b => by omega⟩
  have x1 : eqM m (oneZ 1) ≠ true := fun e => h1 (eqM_iff.1 e)
  have p1 : powI m 1 ≠ oneZ 1 := by rw [powI_one]; exact h1
  by_cases h2 : mulZ m m = oneZ 1
  · refine ⟨2, by unfold rordX; rw [if_neg x1, if_pos (eqM_iff.2 h2)]; rfl, by decide, by decide, by decide, by rw [powI_two]; exact h2, fun j a b => ?_⟩
    obtain rfl : j = 1 := by omega
    exact p1
  have x2 : eqM (mulZ m m) (oneZ 1) ≠ true := fun e => h2 (eqM_iff.1 e)
  have p2 : powI m 2 ≠ oneZ 1 := by rw [powI_two]; exact h2
  have er : rordX m = rordC (trcZ m) (sZ m) (detZ m) := by unfold rordX; rw [if_neg x1, if_neg x2]
  have lin_one : ∀ k, coef (trcZ m) (sZ m) (detZ m) k = (0, 0, 1) → powI m k = oneZ 1 := fun k hk => by
    rw [powI_lin, hk]; simp [linZ, oneZ]
  rw [er] at hr ⊢
  generalize hC : rordC (trcZ m) (sZ m) (detZ m) = r at hr ⊢
  unfold rordC at hC
  split at hC
  · rename_i e
    obtain ⟨e1, e2, e3⟩ := e
    refine ⟨3, hC.symm, by decide, by decide, by decide, lin_one 3 (by rw [e1, e2, e3]; decide), fun j a b => ?_⟩
    obtain rfl | rfl : j = 1 ∨ j = 2 := by omega
    · exact p1
    · exact p2
  · split at hC
    · rename_i e
      rcases e with ⟨e1, e2, e3⟩ | ⟨e1, e2, e3⟩ <;>
      · refine ⟨4, hC.symm, by decide, by decide, by decide, lin_one 4 (by rw [e1, e2, e3]; decide), fun j a b => ?_⟩
        obtain rfl | rfl | rfl : j = 1 ∨ j = 2 ∨ j = 3 := by omega
        · exact p1
        · exact p2
        · exact tr_not e1 e2 e3 (by decide)
    · split at hC
      · rename_i e
        rcases e with ⟨e1, e2, e3⟩ | ⟨e1, e2, e3⟩ | ⟨e1, e2, e3⟩ <;>
        · refine ⟨6, hC.symm, by decide, by decide, by decide, lin_one 6 (by rw [e1, e2, e3]; decide), fun j a b => ?_⟩
          obtain rfl | rfl | rfl | rfl | rfl : j = 1 ∨ j = 2 ∨ j = 3 ∨ j = 4 ∨ j = 5 := by omega
          · exact p1
          · exact p2
          · exact tr_not e1 e2 e3 (by decide)
          · exact tr_not e1 e2 e3 (by decide)
          · exact tr_not e1 e2 e3 (by decide)
      · exact absurd hC.symm hr

/-! ### Small matrices without an order -/
theorem trp_rec (t s d : Int) (k : Nat) : trp t s d (k + 3) = t * trp t s d (k + 2) - s * trp t s d (k + 1) + d * trp t s d k := by
  simp only [trp, coef]
  generalize (coef t s d k).1 = a
  generalize (coef t s d k).2.1 = b
  generalize (coef t s d k).2.2 = c
  grind
def goodC (t s d : Int) : Bool := !decide (rordC t s d = 0) || (decide (t = 3) && decide (s = 3) && decide (d = 1)) || (decide (t = -3) && decide (s = 3) && decide (d = -1)) || (decide (t = 1) && decide (s = -1) && decide (d = -1)) || (decide (t = -1) && decide (s = -1) && decide (d = 1))
def chk (t s d : Int) : Nat → Int → Int → Int → Bool
  | 0, _, _, _ => true
  | f + 1, p, q, r => (!(decide (p = 3) && decide (q = t) && decide (r = t * t - 2 * s)) || goodC t s d) && chk t s d f q r (t * r - s * q + d * p)
def chkS (t d : Int) : Nat → Int → Bool
  | 0, _ => true
  | f + 1, s => chk t s d 12 t (t * t - 2 * s) (t * (t * t - 2 * s) - s * t + d * 3) && chkS t d f (s + 1)
def chkT (d : Int) : Nat → Int → Bool
  | 0, _ => true
  | f + 1, t => chkS t d 109 (-54) && chkT d f (t + 1)
theorem chk_all : chkT 1 19 (-9) = true ∧ chkT (-1) 19 (-9) = true := by decide +kernel
theorem chkT_at {d : Int} : ∀ (f : Nat) (t0 : Int), chkT d f t0 = true → ∀ t, t0 ≤ t → t < t0 + f → chkS t d 109 (-54) = true
  | 0, t0, _, t, h1, h2 => by omega
  | f + 1, t0, h, t, h1, h2 => by
    unfold chkT at h
    rw [Bool.and_eq_true] at h
    by_cases e : t = t0
    · rw [e]; exact h.1
    · exact chkT_at f (t0 + 1) h.2 t (by omega) (by omega)
theorem chkS_at {t d : Int} : ∀ (f : Nat) (s0 : Int), chkS t d f s0 = true → ∀ s, s0 ≤ s → s < s0 + f → chk t s d 12 t (t * t - 2 * s) (t * (t * t - 2 * s) - s * t + d * 3) = true
  | 0, s0, _, s, h1, h2 => by omega
  | f + 1, s0, h, s, h1, h2 => by
    unfold chkS at h
    rw [Bool.and_eq_true] at h
    by_cases e : s = s0
    · rw [e]; exact h.1
    · exact chkS_at f (s0 + 1) h.2 s (by omega) (by omega)
theorem chk_at {t s d : Int} : ∀ (f k : Nat), chk t s d f (trp t s d k) (trp t s d (k + 1)) (trp t s d (k + 2)) = true → ∀ j, k ≤ j → j < k + f → trp t s d j = 3 → trp t s d (j + 1) = t → trp t s d (j + 2) = t * t - 2 * s → goodC t s d = true
  | 0, k, _, j, h1, h2, _, _, _ => by omega
  | f + 1, k, h, j, h1, h2, a, b, c => by
    unfold chk at h
    rw [Bool.and_eq_true] at h
    by_cases e : j = k
    · subst e
      have := h.1
      rw [a, b, c] at this
      simpa using this
    · rw [← trp_rec] at h
      exact chk_at f (k + 1) h.2 j (by omega) (by omega) a b c
theorem lin_sp {m : M3} {k : Nat} (h : powI m k = oneZ 1) {a b c a' b' c' : Int} (e1 : coef (trcZ m) (sZ m) (detZ m) k = (a, b, c)) (e2 : coef (trcZ m) (sZ m) (detZ m) (k + 1) = (a', b', c'))
    (hx : ∀ x y z : Int, (z = 0 ∨ z = 1) → a * x + b * y + c * z = z → a' * x + b' * y + c' * z = y → x = z) : mulZ m m = oneZ 1 := by
  have h1 := h
  have h2 : powI m (k + 1) = m := by rw [powI, h, (mulZ_one m).1]
  rw [powI_lin, e1] at h1
  rw [powI_lin, e2] at h2
  simp only [linZ, oneZ] at h1
  unfold linZ at h2
  clear h e1 e2
  obtain ⟨y1, y2, y3, y4, y5, y6, y7, y8, y9⟩ := m
  generalize mulZ ⟨y1, y2, y3, y4, y5, y6, y7, y8, y9⟩ ⟨y1, y2, y3, y4, y5, y6, y7, y8, y9⟩ = q at h1 h2 ⊢
  obtain ⟨x1, x2, x3, x4, x5, x6, x7, x8, x9⟩ := q
  simp only [M3.mk.injEq, oneZ] at h1 h2 ⊢
  obtain ⟨p1, p2, p3, p4, p5, p6, p7, p8, p9⟩ := h1
  obtain ⟨q1, q2, q3, q4, q5, q6, q7, q8, q9⟩ := h2
  exact ⟨hx x1 y1 1 (.inr rfl) (by omega) (by omega), hx x2 y2 0 (.inl rfl) (by omega) (by omega), hx x3 y3 0 (.inl rfl) (by omega) (by omega), hx x4 y4 0 (.inl rfl) (by omega) (by omega), hx x5 y5 1 (.inr rfl) (by omega) (by omega), hx x6 y6 0 (.inl rfl) (by omega) (by omega),
    hx x7 y7 0 (.inl rfl) (by omega) (by omega), hx x8 y8 0 (.inl rfl) (by omega) (by omega), hx x9 y9 1 (.inr rfl) (by omega) (by omega)⟩
def spC (t s d : Int) (k : Nat) : Bool :=
  !decide (trp t s d k = 3) ||
  (!decide ((coef t s d k).1 * ((coef t s d (k + 1)).2.1 - 1) - (coef t s d (k + 1)).1 * (coef t s d k).2.1 = 0) && decide (((coef t s d k).2.2 - 1) * ((coef t s d (k + 1)).2.1 - 1) - (coef t s d (k + 1)).2.2 * (coef t s d k).2.1 = -((coef t s d k).1 * ((coef t s d (k + 1)).2.1 - 1) - (coef t s d (k + 1)).1 * (coef t s d k).2.1))) ||
  (decide ((coef t s d k).2.1 = 0) && !decide ((coef t s d k).1 = 0) && decide ((coef t s d k).2.2 - 1 = -(coef t s d k).1))
theorem sp_ok {m : M3} {k : Nat} {t s d : Int} (ht : trcZ m = t) (hs : sZ m = s) (hd : detZ m = d) (h : powI m k = oneZ 1) (hc : spC t s d k = true) : mulZ m m = oneZ 1 := by
  have t3 := (tr_one h).1
  rw [ht, hs, hd] at t3
  unfold spC at hc
  rw [t3] at hc
  refine lin_sp h (a := (coef t s d k).1) (b := (coef t s d k).2.1) (c := (coef t s d k).2.2) (a' := (coef t s d (k + 1)).1) (b' := (coef t s d (k + 1)).2.1) (c' := (coef t s d (k + 1)).2.2) (by rw [ht, hs, hd]) (by rw [ht, hs, hd]) ?_
  intro x y z _ e1 e2
  generalize (coef t s d k).1 = a at *
  generalize (coef t s d k).2.1 = b at *
  generalize (coef t s d k).2.2 = c at *
  generalize (coef t s d (k + 1)).1 = a' at *
  generalize (coef t s d (k + 1)).2.1 = b' at *
  generalize (coef t s d (k + 1)).2.2 = c' at *
  simp only [decide_true, Bool.not_true, Bool.false_or, Bool.or_eq_true, Bool.and_eq_true, Bool.not_eq_true', decide_eq_true_eq, decide_eq_false_iff_not] at hc
  rcases hc with ⟨w, e3⟩ | ⟨⟨b0, a0⟩, e3⟩
  · have : (a * (b' - 1) - a' * b) * (x - z) = 0 := by grind
    have := (Int.mul_eq_zero.1 this).resolve_left w
    omega
  · have : a * (x - z) = 0 := by grind
    have := (Int.mul_eq_zero.1 this).resolve_left a0
    omega
theorem none12 {m : M3} (hb : Bnd 3 m) (hd : detZ m = 1 ∨ detZ m = -1) (h0 : rordX m = 0) {k : Nat} (k1 : 1 ≤ k) (k2 : k ≤ 12) : powI m k ≠ oneZ 1 := by
  intro h
  have ht := trcZ_B hb
  have hs := trcZ_B (adjZ_B hb)
  have hs1 : -54 ≤ sZ m := by unfold sZ; omega
  have hs2 : sZ m ≤ 54 := by unfold sZ; omega
  have t0 := tr_one h
  have t2 : trp (trcZ m) (sZ m) (detZ m) (k + 2) = trcZ m * trcZ m - 2 * sZ m := by
    rw [← trc_pow, show k + 2 = k + 1 + 1 by omega, powI, powI, h, (mulZ_one m).1]
    have := trc_lin 1 0 0 m
    have e : linZ 1 0 0 m = mulZ m m := by cases e : mulZ m m; simp [linZ, e]
    rw [e] at this
    omega
  have hg : goodC (trcZ m) (sZ m) (detZ m) = true := by
    have key : ∀ d, (d = 1 ∨ d = -1) → chkT d 19 (-9) = true := fun d hd => by rcases hd with rfl | rfl; exact chk_all.1; exact chk_all.2
    have c1 := chkT_at 19 (-9) (key _ hd) (trcZ m) (by omega) (by omega)
    have c2 := chkS_at 109 (-54) c1 (sZ m) (by omega) (by omega)
    have p1 : trp (trcZ m) (sZ m) (detZ m) 1 = trcZ m := by simp [trp, coef]
    have p2 : trp (trcZ m) (sZ m) (detZ m) 2 = trcZ m * trcZ m - 2 * sZ m := by simp [trp, coef]
    have p3 : trp (trcZ m) (sZ m) (detZ m) 3 = trcZ m * (trcZ m * trcZ m - 2 * sZ m) - sZ m * trcZ m + detZ m * 3 := by
      have := trp_rec (trcZ m) (sZ m) (detZ m) 0
      rw [p2, p1] at this
      rw [this]; simp [trp, coef]
    rw [← p3, ← p2] at c2
    exact chk_at 12 1 (show chk _ _ _ 12 (trp (trcZ m) (sZ m) (detZ m) 1) (trp (trcZ m) (sZ m) (detZ m) 2) (trp (trcZ m) (sZ m) (detZ m) 3) = true by rw [p1]; exact c2) k k1 (by omega) t0.1 t0.2 t2
  unfold rordX at h0
  split at h0
  · exact absurd h0 (by decide)
  · split at h0
    · exact absurd h0 (by decide)
    · rename_i x1 x2
      have no2 : mulZ m m ≠ oneZ 1 := fun e => x2 (eqM_iff.2 e)
      unfold goodC at hg
      rw [h0] at hg
      simp only [decide_true, Bool.not_true, Bool.false_or, Bool.or_eq_true, Bool.and_eq_true, decide_eq_true_eq] at hg
      have kk : k = 1 ∨ k = 2 ∨ k = 3 ∨ k = 4 ∨ k = 5 ∨ k = 6 ∨ k = 7 ∨ k = 8 ∨ k = 9 ∨ k = 10 ∨ k = 11 ∨ k = 12 := by omega
      rcases hg with ((⟨⟨e1, e2⟩, e3⟩ | ⟨⟨e1, e2⟩, e3⟩) | ⟨⟨e1, e2⟩, e3⟩) | ⟨⟨e1, e2⟩, e3⟩ <;> rcases kk with rfl | rfl | rfl | rfl | rfl | rfl | rfl | rfl | rfl | rfl | rfl | rfl <;>
        exact no2 (sp_ok e1 e2 e3 h (by decide))

/-! ### Told from elsewhere -/
section
variable {P q M : M3} (h1 : mulZ P q = oneZ 1) (h2 : mulZ q P = oneZ 1)
include h2
theorem conj_pow (h1 : mulZ P q = oneZ 1) : ∀ k, powI (mulZ (mulZ P M) q) k = mulZ (mulZ P (powI M k)) q
  | 0 => by rw [powI, powI, (mulZ_one P).2, h1]
  | k + 1 => by
    rw [powI, conj_pow h1 k, powI, mulZ_assoc (mulZ P (powI M k)) q, ← mulZ_assoc q (mulZ P M), ← mulZ_assoc q P, h2, (mulZ_one M).1, ← mulZ_assoc (mulZ P (powI M k)) M, mulZ_assoc P (powI M k) M]
omit h2 in
theorem trc_comm (a b : M3) : trcZ (mulZ a b) = trcZ (mulZ b a) := by
  simp only [trcZ, mulZ]; grind
theorem trc_conj (X : M3) : trcZ (mulZ (mulZ P X) q) = trcZ X := by
  rw [trc_comm, ← mulZ_assoc, h2, (mulZ_one X).1]
theorem conj_one (X : M3) (h1 : mulZ P q = oneZ 1) : mulZ (mulZ P X) q = oneZ 1 ↔ X = oneZ 1 := by
  constructor
  · intro h
    have : mulZ (mulZ q (mulZ (mulZ P X) q)) P = X := by
      rw [← mulZ_assoc, ← mulZ_assoc, h2, (mulZ_one X).1, mulZ_assoc, h2, (mulZ_one X).2]
    rw [← this, h, (mulZ_one q).2, h2]
  · rintro rfl
    rw [(mulZ_one P).2, h1]
theorem conj_tsd (h1 : mulZ P q = oneZ 1) : trcZ (mulZ (mulZ P M) q) = trcZ M ∧ sZ (mulZ (mulZ P M) q) = sZ M ∧ detZ (mulZ (mulZ P M) q) = detZ M := by
  have hk : ∀ k, trp (trcZ (mulZ (mulZ P M) q)) (sZ (mulZ (mulZ P M) q)) (detZ (mulZ (mulZ P M) q)) k = trp (trcZ M) (sZ M) (detZ M) k := fun k => by
    rw [← trc_pow, ← trc_pow, conj_pow h2 h1, trc_conj h2]
  have e1 := hk 1
  have e2 := hk 2
  have e3 := hk 3
  simp only [trp, coef] at e1 e2 e3
  generalize trcZ (mulZ (mulZ P M) q) = t at *
  generalize sZ (mulZ (mulZ P M) q) = s at *
  generalize detZ (mulZ (mulZ P M) q) = d at *
  have a1 : t = trcZ M := by grind
  subst a1
  have a2 : s = sZ M := by grind
  subst a2
  exact ⟨rfl, rfl, by grind⟩
theorem conj_ord (h1 : mulZ P q = oneZ 1) : rordX (mulZ (mulZ P M) q) = rordX M := by
  obtain ⟨e1, e2, e3⟩ := conj_tsd (M := M) h2 h1
  have e4 : eqM (mulZ (mulZ P M) q) (oneZ 1) = eqM M (oneZ 1) := by
    rw [Bool.eq_iff_iff, eqM_iff, eqM_iff]; exact conj_one h2 M h1
  have e5 : mulZ (mulZ (mulZ P M) q) (mulZ (mulZ P M) q) = mulZ (mulZ P (mulZ M M)) q := by
    have := conj_pow (M := M) h2 h1 2
    rwa [powI_two, powI_two] at this
  have e6 : eqM (mulZ (mulZ (mulZ P M) q) (mulZ (mulZ P M) q)) (oneZ 1) = eqM (mulZ M M) (oneZ 1) := by
    rw [e5, Bool.eq_iff_iff, eqM_iff, eqM_iff]; exact conj_one h2 _ h1
  unfold rordX
  rw [e4, e6, e1, e2, e3]
end
theorem ord_vals {m : M3} (h : uniE m = 0) : ordZ m = rordX m ∧ ordE m = if rordX m = 0 then 9 else 0 := by
  unfold ordZ ordE; rw [ordR_eq h]; exact ⟨rfl, rfl⟩
theorem err2_zero {a b : Int} (h : err2 a b = 0) : a = 0 ∧ b = 0 := by
  unfold err2 at h; split at h
  · exact ⟨by assumption, h⟩
  · exact absurd h (by assumption)
theorem errM_B {k : Int} {m : M3} (hk : k ≤ 1000) (h : Bnd k m) : errM m = 0 := errM_ok.2 (B_okM hk h)
theorem sca_B {k : Int} {m : M3} (h : Bnd k m) {d : Int} (hd : d = 1 ∨ d = -1) : Bnd k (scaZ d m) := by
  obtain ⟨⟨a1, b1⟩, ⟨a2, b2⟩, ⟨a3, b3⟩, ⟨a4, b4⟩, ⟨a5, b5⟩, ⟨a6, b6⟩, ⟨a7, b7⟩, ⟨a8, b8⟩, ⟨a9, b9⟩⟩ := h
  rcases hd with rfl | rfl <;> (refine ⟨?_, ?_, ?_, ?_, ?_, ?_, ?_, ?_, ?_⟩ <;> (simp only [scaZ]; constructor <;> omega))
def VpTail (M P : M3) (n e : Int) : Prop := (True ∧
  ∀ z20 : M3,
  (z20 = selM (uniE P) (wM (scaZ (detZ P) (adjZ P))) →
  ∀ z22 : Int,
  (z22 = uniE P →
  (((!(decide (z22 = 0))) = true →
   (true, ()) = (true, ())) ∧
  ((!(decide (z22 = 0))) = false →
  (True ∧
  ∀ z25 : M3,
  (z25 = selM (err2 (errM P) (errM M)) (wM (mulZ P M)) →
  ∀ z27 : Int,
  (z27 = err2 (errM P) (errM M) →
  (True ∧
  ∀ z29 : M3,
  (z29 = selM (err2 (errM z25) (errM z20)) (wM (mulZ z25 z20)) →
  ∀ z31 : Int,
  (z31 = err2 (errM z25) (errM z20) →
  (((!(decide (z31 = 0))) = true →
   (true, ()) = (true, ())) ∧
  ((!(decide (z31 = 0))) = false →
  (True ∧
  ∀ z34 : Int,
  (z34 = errM z29 →
  (((!(decide (z34 = 0))) = true →
   (true, ()) = (true, ())) ∧
  ((!(decide (z34 = 0))) = false →
  (True ∧
  ∀ z37 : Int,
  (z37 = ordZ z29 →
  ∀ z39 : Int,
  (z39 = ordE z29 →
  (((decide (z37 = n)) = true →
   ((decide (z39 = e)), ()) = (true, ())) ∧
  ((decide (z37 = n)) = false →
  (false, ()) = (true, ())))))))))))))))))))))))
theorem vp_tail {M P : M3} (hM : Bnd 3 M) (hP : Bnd 3 P) (hu : uniE M = 0) : VpTail M P (ordZ M) (ordE M) := by
  refine ⟨trivial, fun q hq u hu' => ⟨fun _ => rfl, fun hz => ⟨trivial, fun x hx y hy => ⟨trivial, fun t ht f hf => ⟨fun _ => rfl, fun hf0 => ⟨trivial, fun g hg => ⟨fun _ => rfl, fun hg0 => ⟨trivial, fun a ha b hb => ?_⟩⟩⟩⟩⟩⟩⟩⟩
  have hz : uniE P = 0 := by rw [← hu']; exact of_decide_eq_true (ye_not hz)
  have hdP := (uniE_ok hz).2.2
  have hdM := (uniE_ok hu).2.2
  have hqB : Bnd 18 (invZ P) := sca_B (adjZ_B hP) hdP
  have hq : q = invZ P := by
    rw [hq]; unfold selM; rw [if_pos hz]; exact wM_id (by decide) hqB
  have hx : x = mulZ P M := by
    rw [hx, errM_B (by decide) hP, errM_B (by decide) hM]
    show wM (mulZ P M) = _
    exact wM_id (by decide) (mulZ_B hP hM)
  have hxB : Bnd 27 (mulZ P M) := mulZ_B hP hM
  have ht : t = mulZ (mulZ P M) (invZ P) := by
    rw [ht, hq, hx, errM_B (by decide) hxB, errM_B (by decide) hqB]
    show wM (mulZ (mulZ P M) (invZ P)) = _
    exact wM_id (by decide) (mulZ_B hxB hqB)
  have hg0 : errM t = 0 := by rw [← hg]; exact of_decide_eq_true (ye_not hg0)
  obtain ⟨e1, e2, e3⟩ := conj_tsd (M := M) (inv_l hdP) (inv_r hdP)
  have hut : uniE t = 0 := uniE_of (okM_B (errM_ok.1 hg0)) (by rw [ht, e3]; exact hdM)
  have hr : rordX t = rordX M := by rw [ht]; exact conj_ord (inv_l hdP) (inv_r hdP)
  obtain ⟨v1, v2⟩ := ord_vals hut
  obtain ⟨v3, v4⟩ := ord_vals hu
  have ea : a = ordZ M := by rw [ha, v1, hr, v3]
  have eb : b = ordE M := by rw [hb, v2, hr, v4]
  refine ⟨fun _ => ?_, fun h => absurd ea (of_decide_eq_false h)⟩
  rw [eb]; simp
def VpEnd (M P : M3) (n e : Int) : Prop := (((!(decide (e = 0))) = true →
 (((!(decide (e = 9))) = true →
  (false, ()) = (true, ())) ∧
 ((!(decide (e = 9))) = false →
 (((decide (e = 0)) = true →
  (((decide (n < 1)) = true →
   (false, ()) = (true, ())) ∧
  ((decide (n < 1)) = false →
  (((decide (6 < n)) = true →
   (false, ()) = (true, ())) ∧
  ((decide (6 < n)) = false →
  (((decide (n = 5)) = true →
   (false, ()) = (true, ())) ∧
  ((decide (n = 5)) = false →
  (True ∧
  ∀ z20 : M3,
  (z20 = selM (uniE P) (wM (scaZ (detZ P) (adjZ P))) →
  ∀ z22 : Int,
  (z22 = uniE P →
  (((!(decide (z22 = 0))) = true →
   (true, ()) = (true, ())) ∧
  ((!(decide (z22 = 0))) = false →
  (True ∧
  ∀ z25 : M3,
  (z25 = selM (err2 (errM P) (errM M)) (wM (mulZ P M)) →
  ∀ z27 : Int,
  (z27 = err2 (errM P) (errM M) →
  (True ∧
  ∀ z29 : M3,
  (z29 = selM (err2 (errM z25) (errM z20)) (wM (mulZ z25 z20)) →
  ∀ z31 : Int,
  (z31 = err2 (errM z25) (errM z20) →
  (((!(decide (z31 = 0))) = true →
   (true, ()) = (true, ())) ∧
  ((!(decide (z31 = 0))) = false →
  (True ∧
  ∀ z34 : Int,
  (z34 = errM z29 →
  (((!(decide (z34 = 0))) = true →
   (true, ()) = (true, ())) ∧
  ((!(decide (z34 = 0))) = false →
  (True ∧
  ∀ z37 : Int,
  (z37 = ordZ z29 →
  ∀ z39 : Int,
  (z39 = ordE z29 →
  (((decide (z37 = n)) = true →
   ((decide (z39 = e)), ()) = (true, ())) ∧
  ((decide (z37 = n)) = false →
  (false, ()) = (true, ())))))))))))))))))))))))))))))) ∧
 ((decide (e = 0)) = false →
 (True ∧
 ∀ z17 : M3,
 (z17 = selM (uniE P) (wM (scaZ (detZ P) (adjZ P))) →
 ∀ z19 : Int,
 (z19 = uniE P →
 (((!(decide (z19 = 0))) = true →
  (true, ()) = (true, ())) ∧
 ((!(decide (z19 = 0))) = false →
 (True ∧
 ∀ z22 : M3,
 (z22 = selM (err2 (errM P) (errM M)) (wM (mulZ P M)) →
 ∀ z24 : Int,
 (z24 = err2 (errM P) (errM M) →
 (True ∧
 ∀ z26 : M3,
 (z26 = selM (err2 (errM z22) (errM z17)) (wM (mulZ z22 z17)) →
 ∀ z28 : Int,
 (z28 = err2 (errM z22) (errM z17) →
 (((!(decide (z28 = 0))) = true →
  (true, ()) = (true, ())) ∧
 ((!(decide (z28 = 0))) = false →
 (True ∧
 ∀ z31 : Int,
 (z31 = errM z26 →
 (((!(decide (z31 = 0))) = true →
  (true, ()) = (true, ())) ∧
 ((!(decide (z31 = 0))) = false →
 (True ∧
 ∀ z34 : Int,
 (z34 = ordZ z26 →
 ∀ z36 : Int,
 (z36 = ordE z26 →
 (((decide (z34 = n)) = true →
  ((decide (z36 = e)), ()) = (true, ())) ∧
 ((decide (z34 = n)) = false →
 (false, ()) = (true, ())))))))))))))))))))))))))))) ∧
((!(decide (e = 0))) = false →
(((decide (e = 0)) = true →
 (((decide (n < 1)) = true →
  (false, ()) = (true, ())) ∧
 ((decide (n < 1)) = false →
 (((decide (6 < n)) = true →
  (false, ()) = (true, ())) ∧
 ((decide (6 < n)) = false →
 (((decide (n = 5)) = true →
  (false, ()) = (true, ())) ∧
 ((decide (n = 5)) = false →
 (True ∧
 ∀ z19 : M3,
 (z19 = selM (uniE P) (wM (scaZ (detZ P) (adjZ P))) →
 ∀ z21 : Int,
 (z21 = uniE P →
 (((!(decide (z21 = 0))) = true →
  (true, ()) = (true, ())) ∧
 ((!(decide (z21 = 0))) = false →
 (True ∧
 ∀ z24 : M3,
 (z24 = selM (err2 (errM P) (errM M)) (wM (mulZ P M)) →
 ∀ z26 : Int,
 (z26 = err2 (errM P) (errM M) →
 (True ∧
 ∀ z28 : M3,
 (z28 = selM (err2 (errM z24) (errM z19)) (wM (mulZ z24 z19)) →
 ∀ z30 : Int,
 (z30 = err2 (errM z24) (errM z19) →
 (((!(decide (z30 = 0))) = true →
  (true, ()) = (true, ())) ∧
 ((!(decide (z30 = 0))) = false →
 (True ∧
 ∀ z33 : Int,
 (z33 = errM z28 →
 (((!(decide (z33 = 0))) = true →
  (true, ()) = (true, ())) ∧
 ((!(decide (z33 = 0))) = false →
 (True ∧
 ∀ z36 : Int,
 (z36 = ordZ z28 →
 ∀ z38 : Int,
 (z38 = ordE z28 →
 (((decide (z36 = n)) = true →
  ((decide (z38 = e)), ()) = (true, ())) ∧
 ((decide (z36 = n)) = false →
 (false, ()) = (true, ())))))))))))))))))))))))))))))) ∧
((decide (e = 0)) = false →
(True ∧
∀ z16 : M3,
(z16 = selM (uniE P) (wM (scaZ (detZ P) (adjZ P))) →
∀ z18 : Int,
(z18 = uniE P →
(((!(decide (z18 = 0))) = true →
 (true, ()) = (true, ())) ∧
((!(decide (z18 = 0))) = false →
(True ∧
∀ z21 : M3,
(z21 = selM (err2 (errM P) (errM M)) (wM (mulZ P M)) →
∀ z23 : Int,
(z23 = err2 (errM P) (errM M) →
(True ∧
∀ z25 : M3,
(z25 = selM (err2 (errM z21) (errM z16)) (wM (mulZ z21 z16)) →
∀ z27 : Int,
(z27 = err2 (errM z21) (errM z16) →
(((!(decide (z27 = 0))) = true →
 (true, ()) = (true, ())) ∧
((!(decide (z27 = 0))) = false →
(True ∧
∀ z30 : Int,
(z30 = errM z25 →
(((!(decide (z30 = 0))) = true →
 (true, ()) = (true, ())) ∧
((!(decide (z30 = 0))) = false →
(True ∧
∀ z33 : Int,
(z33 = ordZ z25 →
∀ z35 : Int,
(z35 = ordE z25 →
(((decide (z33 = n)) = true →
 ((decide (z35 = e)), ()) = (true, ())) ∧
((decide (z33 = n)) = false →
(false, ()) = (true, ())))))))))))))))))))))))))))
theorem vp_end {M P : M3} (hM : Bnd 3 M) (hP : Bnd 3 P) (hu : uniE M = 0) : VpEnd M P (ordZ M) (ordE M) := by
  have tail := vp_tail hM hP hu
  unfold VpTail at tail
  obtain ⟨v3, v4⟩ := ord_vals hu
  have he : ordE M = 0 ∨ ordE M = 9 := by rw [v4]; split; exact .inr rfl; exact .inl rfl
  have hn : ordE M = 0 → 1 ≤ ordZ M ∧ ordZ M ≤ 6 ∧ ordZ M ≠ 5 := fun h => by
    have hr : rordX M ≠ 0 := fun e => by rw [v4, if_pos e] at h; exact absurd h (by decide)
    obtain ⟨n, e1, e2, e3, e4, _⟩ := min_order hr
    rw [v3, e1]; omega
  have mid : (((decide (ordE M = 0)) = true → True)) := fun _ => trivial
  clear mid
  unfold VpEnd
  refine ⟨fun h9 => ⟨fun h => ?_, fun _ => ⟨fun h => ?_, fun _ => tail⟩⟩, fun h9 => ⟨fun h => ?_, fun _ => tail⟩⟩
  · have := of_decide_eq_false (no_not h9)
    have := of_decide_eq_false (no_not h)
    omega
  · exact absurd (of_decide_eq_true h) (of_decide_eq_false (no_not h9))
  · obtain ⟨n1, n2, n3⟩ := hn (of_decide_eq_true h)
    refine ⟨fun h => ?_, fun _ => ⟨fun h => ?_, fun _ => ⟨fun h => ?_, fun _ => tail⟩⟩⟩
    · have := of_decide_eq_true h; omega
    · have := of_decide_eq_true h; omega
    · exact absurd (of_decide_eq_true h) n3
def vpInv (m : M3) (_ _ k : Int) (a : M3) : Prop := 1 ≤ k ∧ k ≤ 13 ∧ a = powI m (k - 1).toNat

/-! ### Adjoints -/
theorem det_sca_adj {m : M3} (h : detZ m = 1 ∨ detZ m = -1) : detZ (invZ m) = detZ m := by
  have e1 : ∀ (n : Int) (a : M3), detZ (scaZ n a) = n * n * n * detZ a := fun n a => by simp only [detZ, scaZ]; grind
  have e2 : detZ (adjZ m) = detZ m * detZ m := by simp only [detZ, adjZ]; grind
  unfold invZ
  rw [e1, e2]
  rcases h with h | h <;> rw [h] <;> decide
end Go.Fx
end
