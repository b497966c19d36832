/-
  The order that the code finds is the order that the document tells.
-/
import Derived.Test.YthljaepanhdmiaaV
namespace Go.Fx
open Go

/-! ### Powers modulo three primes are powers -/
theorem resP_mod (p x : Int) : resP p x % p = x % p := by
  have h1 : Int.tmod x p = x - p * Int.tdiv x p := by have := Int.tmod_add_mul_tdiv x p; omega
  unfold resP
  rw [Int.emod_emod_of_dvd _ (Int.dvd_refl p), h1, show x - p * Int.tdiv x p + p = x + p * (1 - Int.tdiv x p) by rw [Int.mul_sub]; omega, Int.add_mul_emod_self_left]
theorem mul_mod' (a x p : Int) (h : resP p x % p = x % p) : (a * resP p x) % p = (a * x) % p := by
  rw [Int.mul_emod, h, ← Int.mul_emod]
theorem dotP_mod {p a b c : Int} (hp : 0 < p) (hq : p ≤ 2147483648) (x y z : Int) (ha : inP p a) (hb : inP p b) (hc : inP p c) : dotP p a b c x y z = (a * x + b * y + c * z) % p := by
  have h1 := mul_in hq ha (resP_in hp x)
  have h2 := mul_in hq hb (resP_in hp y)
  have h3 := mul_in hq hc (resP_in hp z)
  have t1 := tmod_in hp h1.1
  have k1 : 0 ≤ Int.tmod (a * resP p x) p + b * resP p y := Int.add_nonneg t1.1 h2.1
  have t2 := tmod_in hp k1
  have k2 : 0 ≤ Int.tmod (Int.tmod (a * resP p x) p + b * resP p y) p + c * resP p z := Int.add_nonneg t2.1 h3.1
  unfold dotP
  rw [Int.tmod_eq_emod_of_nonneg k2, Int.tmod_eq_emod_of_nonneg k1, Int.tmod_eq_emod_of_nonneg h1.1]
  have f1 := mul_mod' a x p (resP_mod p x)
  have f2 := mul_mod' b y p (resP_mod p y)
  have f3 := mul_mod' c z p (resP_mod p z)
  generalize a * resP p x = u at f1 ⊢
  generalize b * resP p y = v at f2 ⊢
  generalize c * resP p z = t at f3 ⊢
  have g : (v + t) % p = (b * y + c * z) % p := by rw [Int.add_emod, f2, f3, ← Int.add_emod]
  rw [Int.emod_add_emod, Int.add_assoc, Int.emod_add_emod, Int.add_emod, f1, g, ← Int.add_emod, Int.add_assoc]
def modM (p : Int) (m : M3) : M3 := M3.mk (m.xx % p) (m.xy % p) (m.xz % p) (m.yx % p) (m.yy % p) (m.yz % p) (m.zx % p) (m.zy % p) (m.zz % p)
theorem dot_modl (a b c x y z p : Int) : ((a % p) * x + (b % p) * y + (c % p) * z) % p = (a * x + b * y + c * z) % p := by
  have h : ∀ u v : Int, (u % p) * v = u * v + p * (-(u / p) * v) := fun u v => by
    have := Int.emod_def u p
    rw [this]; grind
  rw [h, h, h, show a * x + p * (-(a / p) * x) + (b * y + p * (-(b / p) * y)) + (c * z + p * (-(c / p) * z)) = a * x + b * y + c * z + p * (-(a / p) * x + -(b / p) * y + -(c / p) * z) by grind, Int.add_mul_emod_self_left]
theorem stepP_mod {p : Int} (hp : 1 < p) (hq : p ≤ 2147483648) (m : M3) {c : M3} (h : allP p c) : stepP p m c = modM p (mulZ c m) := by
  obtain ⟨⟨a1, a2, a3⟩, ⟨b1, b2, b3⟩, c1, c2, c3⟩ := h
  have h0 : 0 < p := by omega
  simp only [stepP, modM, mulZ, M3.mk.injEq]
  exact ⟨dotP_mod h0 hq _ _ _ a1 a2 a3, dotP_mod h0 hq _ _ _ a1 a2 a3, dotP_mod h0 hq _ _ _ a1 a2 a3, dotP_mod h0 hq _ _ _ b1 b2 b3, dotP_mod h0 hq _ _ _ b1 b2 b3, dotP_mod h0 hq _ _ _ b1 b2 b3,
    dotP_mod h0 hq _ _ _ c1 c2 c3, dotP_mod h0 hq _ _ _ c1 c2 c3, dotP_mod h0 hq _ _ _ c1 c2 c3⟩
theorem modM_mul (p : Int) (c m : M3) : modM p (mulZ (modM p c) m) = modM p (mulZ c m) := by
  simp only [modM, mulZ, dot_modl]
theorem powP_powI {p : Int} (hp : 1 < p) (hq : p ≤ 2147483648) (m : M3) : ∀ k, powP p m k = modM p (powI m k)
  | 0 => by
    have h0 : (0 : Int) % p = 0 := Int.zero_emod p
    have h1 : (1 : Int) % p = 1 := Int.emod_eq_of_lt (by omega) (by omega)
    simp [powP, powI, modM, oneZ, h0, h1]
  | k + 1 => by
    rw [powP, stepP_mod hp hq m (powP_in hp hq m k), powP_powI hp hq m k, modM_mul]
    rfl
theorem dvd3g {p q r : Nat} {x : Int} (c12 : Nat.Coprime p q) (c123 : Nat.Coprime (p * q) r) (h1 : (p : Int) ∣ x) (h2 : (q : Int) ∣ x) (h3 : (r : Int) ∣ x) (hb : x.natAbs < p * q * r) : x = 0 := by
  have e1 := Nat.Coprime.mul_dvd_of_dvd_of_dvd c12 (by have := Int.natAbs_dvd_natAbs.2 h1; rwa [Int.natAbs_natCast] at this) (by have := Int.natAbs_dvd_natAbs.2 h2; rwa [Int.natAbs_natCast] at this)
  have e2 := Nat.Coprime.mul_dvd_of_dvd_of_dvd c123 e1 (by have := Int.natAbs_dvd_natAbs.2 h3; rwa [Int.natAbs_natCast] at this)
  exact Int.natAbs_eq_zero.1 (Nat.eq_zero_of_dvd_of_lt e2 hb)
theorem dvd3 {x : Int} (h1 : x % 2147483647 = 0) (h2 : x % 2147483629 = 0) (h3 : x % 2147483587 = 0) (hb : x.natAbs < 1000000000000000000000000) : x = 0 := by
  refine dvd3g (p := 2147483647) (q := 2147483629) (r := 2147483587) (by decide +kernel) (by decide +kernel) ?_ ?_ ?_ ?_
  · exact Int.dvd_of_emod_eq_zero h1
  · exact Int.dvd_of_emod_eq_zero h2
  · exact Int.dvd_of_emod_eq_zero h3
  · exact Nat.lt_of_lt_of_le hb (by decide)
def bigB : Nat → Int
  | 0 => 1
  | k + 1 => 3 * (bigB k * 1000)
theorem one_B : Bnd 1 (oneZ 1) := by refine ⟨?_, ?_, ?_, ?_, ?_, ?_, ?_, ?_, ?_⟩ <;> decide
theorem powI_B {m : M3} (h : Bnd 1000 m) : ∀ k, Bnd (bigB k) (powI m k)
  | 0 => one_B
  | k + 1 => mulZ_B (powI_B h k) h
theorem bigB_le {k : Nat} (h : k ≤ 6) : bigB k < 100000000000000000000000 := by
  match k, h with
  | 0, _ | 1, _ | 2, _ | 3, _ | 4, _ | 5, _ | 6, _ => decide
theorem mod_sub {p x y : Int} (h : x % p = y) : (x - y) % p = 0 := by
  have e : x - y = p * (x / p) := by rw [← h, Int.emod_def]; omega
  rw [e, Int.mul_emod_right]
theorem three_eq {B x y : Int} (hl : B < 100000000000000000000000) (b : -B ≤ x ∧ x ≤ B) (hy : y = 0 ∨ y = 1) (r1 : x % 2147483647 = y) (r2 : x % 2147483629 = y) (r3 : x % 2147483587 = y) : x = y := by
  have h := dvd3 (mod_sub r1) (mod_sub r2) (mod_sub r3)
  clear r1 r2 r3
  have := h (by omega)
  omega
theorem modM_ext {p : Int} {q : M3} (h : modM p q = oneZ 1) : (q.xx % p = 1 ∧ q.xy % p = 0 ∧ q.xz % p = 0) ∧ (q.yx % p = 0 ∧ q.yy % p = 1 ∧ q.yz % p = 0) ∧ (q.zx % p = 0 ∧ q.zy % p = 0 ∧ q.zz % p = 1) := by
  simp only [modM, oneZ, M3.mk.injEq] at h
  obtain ⟨h1, h2, h3, h4, h5, h6, h7, h8, h9⟩ := h
  exact ⟨⟨h1, h2, h3⟩, ⟨h4, h5, h6⟩, h7, h8, h9⟩
theorem three_one {B : Int} (hl : B < 100000000000000000000000) {q : M3} (hb : Bnd B q) (h1 : modM 2147483647 q = oneZ 1) (h2 : modM 2147483629 q = oneZ 1) (h3 : modM 2147483587 q = oneZ 1) : q = oneZ 1 := by
  obtain ⟨⟨a1, a2, a3⟩, ⟨a4, a5, a6⟩, a7, a8, a9⟩ := modM_ext h1
  obtain ⟨⟨b1, b2, b3⟩, ⟨b4, b5, b6⟩, b7, b8, b9⟩ := modM_ext h2
  obtain ⟨⟨c1, c2, c3⟩, ⟨c4, c5, c6⟩, c7, c8, c9⟩ := modM_ext h3
  have e1 := three_eq hl hb.xx (.inr rfl) a1 b1 c1
  have e2 := three_eq hl hb.xy (.inl rfl) a2 b2 c2
  have e3 := three_eq hl hb.xz (.inl rfl) a3 b3 c3
  have e4 := three_eq hl hb.yx (.inl rfl) a4 b4 c4
  have e5 := three_eq hl hb.yy (.inr rfl) a5 b5 c5
  have e6 := three_eq hl hb.yz (.inl rfl) a6 b6 c6
  have e7 := three_eq hl hb.zx (.inl rfl) a7 b7 c7
  have e8 := three_eq hl hb.zy (.inl rfl) a8 b8 c8
  have e9 := three_eq hl hb.zz (.inr rfl) a9 b9 c9
  clear hl hb h1 h2 h3 a1 a2 a3 a4 a5 a6 a7 a8 a9 b1 b2 b3 b4 b5 b6 b7 b8 b9 c1 c2 c3 c4 c5 c6 c7 c8 c9
  cases q
  simp only [oneZ, M3.mk.injEq]
  exact ⟨e1, e2, e3, e4, e5, e6, e7, e8, e9⟩
theorem modM_one {p : Int} (hp : 1 < p) : modM p (oneZ 1) = oneZ 1 := by
  have h0 : (0 : Int) % p = 0 := Int.zero_emod p
  have h1 : (1 : Int) % p = 1 := Int.emod_eq_of_lt (by omega) (by omega)
  simp [modM, oneZ, h0, h1]
theorem powZ_iff {m : M3} (h : Bnd 1000 m) {n : Int} (h6 : n ≤ 6) : powZ m n = true ↔ powI m n.toNat = oneZ 1 := by
  have hb := powI_B h n.toNat
  have hl := bigB_le (k := n.toNat) (by omega)
  simp only [powZ, Bool.and_eq_true, eqM_iff]
  rw [powP_powI (by decide) (by decide), powP_powI (by decide) (by decide), powP_powI (by decide) (by decide)]
  generalize powI m n.toNat = q at hb ⊢
  constructor
  · rintro ⟨h1, h2, h3⟩
    exact three_one hl hb h1 h2 h3
  · rintro rfl
    exact ⟨modM_one (by decide), modM_one (by decide), modM_one (by decide)⟩

/-! ### Which powers are the identity -/
def isOne (m : M3) : Prop := m = oneZ 1
theorem tr_one {m : M3} {k : Nat} (h : powI m k = oneZ 1) : trp (trcZ m) (sZ m) (detZ m) k = 3 ∧ trp (trcZ m) (sZ m) (detZ m) (k + 1) = trcZ m := by
  constructor
  · rw [← trc_pow, h]; rfl
  · rw [← trc_pow, powI, h, (mulZ_one m).1]
theorem powI_one (m : M3) : powI m 1 = m := by rw [powI, powI, (mulZ_one m).1]
theorem powI_two (m : M3) : powI m 2 = mulZ m m := by rw [powI, powI_one]
/-- The order that the characteristic polynomial tells. -/
def rordX (m : M3) : Int := if eqM m (oneZ 1) = true then 1 else if eqM (mulZ m m) (oneZ 1) = true then 2 else rordC (trcZ m) (sZ m) (detZ m)
theorem det_one_s {m : M3} (h : mulZ m m = oneZ 1) : (1 + sZ m) * m.xy = 0 ∧ (1 + sZ m) * m.xz = 0 ∧ (1 + sZ m) * m.yx = 0 ∧ (1 + sZ m) * m.yz = 0 ∧ (1 + sZ m) * m.zx = 0 ∧ (1 + sZ m) * m.zy = 0 ∧
    (1 + sZ m) * m.xx = trcZ m + detZ m ∧ (1 + sZ m) * m.yy = trcZ m + detZ m ∧ (1 + sZ m) * m.zz = trcZ m + detZ m := by
  have h3 : powI m 3 = m := by
    show mulZ (powI m 2) m = m
    rw [powI_two, h, (mulZ_one m).1]
  rw [powI_lin] at h3
  simp only [coef] at h3
  have c := h3
  unfold linZ at c
  rw [h] at c
  generalize sZ m = s at c ⊢
  generalize trcZ m = t at c ⊢
  generalize detZ m = d at c ⊢
  cases m
  simp only [oneZ, M3.mk.injEq] at c ⊢
  grind
theorem scalar_case {m : M3} (h : mulZ m m = oneZ 1) (h1 : m ≠ oneZ 1) (hd : detZ m = 1 ∨ detZ m = -1) : detZ m * trcZ m = -1 ∨ (detZ m = -1 ∧ trcZ m = -3) := by
  obtain ⟨a1, a2, a3, a4, a5, a6, a7, a8, a9⟩ := det_one_s h
  by_cases hs : 1 + sZ m = 0
  · rw [hs] at a7
    left
    rcases hd with e | e <;> rw [e] at a7 ⊢ <;> omega
  · right
    have z : ∀ x : Int, (1 + sZ m) * x = 0 → x = 0 := fun x hx => (Int.mul_eq_zero.1 hx).resolve_left hs
    have e1 := z _ a1
    have e2 := z _ a2
    have e3 := z _ a3
    have e4 := z _ a4
    have e5 := z _ a5
    have e6 := z _ a6
    have e7 : m.yy = m.xx := by have := z (m.yy - m.xx) (by rw [Int.mul_sub, a8, a7]; omega); omega
    have e8 : m.zz = m.xx := by have := z (m.zz - m.xx) (by rw [Int.mul_sub, a9, a7]; omega); omega
    have hx : m.xx * m.xx = 1 := by
      have := congrArg M3.xx h
      simp only [mulZ, oneZ, e1, e2, Int.zero_mul, Int.add_zero] at this
      exact this
    have hx1 : m.xx = 1 ∨ m.xx = -1 := by
      have : (m.xx - 1) * (m.xx + 1) = 0 := by grind
      rcases Int.mul_eq_zero.1 this with h | h <;> omega
    rcases hx1 with hx1 | hx1
    · exfalso; apply h1
      cases m
      simp only [oneZ, M3.mk.injEq] at *
      exact ⟨hx1, e1, e2, e3, by omega, e4, e5, e6, by omega⟩
    · refine ⟨?_, ?_⟩
      · unfold detZ; rw [e1, e2, e3, e4, e5, e6, e7, e8, hx1]; decide
      · unfold trcZ; rw [e7, e8, hx1]; decide
/-- A power that is the identity, at the place that the code's table names: the polynomial is among those that the document names. -/
theorem table_rord {m : M3} (hd : detZ m = 1 ∨ detZ m = -1) :
    (detZ m * trcZ m = 0 → detZ m = 1 → powI m 3 = oneZ 1 → rordC (trcZ m) (sZ m) (detZ m) = 3) ∧ (detZ m * trcZ m = 0 → detZ m = -1 → powI m 6 = oneZ 1 → rordC (trcZ m) (sZ m) (detZ m) = 6) ∧
    (detZ m * trcZ m = 1 → powI m 4 = oneZ 1 → rordC (trcZ m) (sZ m) (detZ m) = 4) ∧ (detZ m * trcZ m = 2 → powI m 6 = oneZ 1 → rordC (trcZ m) (sZ m) (detZ m) = 6) := by
  have sq : ∀ x : Int, x * x = 0 → x = 0 := fun x hx => by rcases Int.mul_eq_zero.1 hx with h | h <;> exact h
  refine ⟨fun ht hd h => ?_, fun ht hd h => ?_, fun ht h => ?_, fun ht h => ?_⟩
  · obtain ⟨p1, p2⟩ := tr_one h
    have ht' : trcZ m = 0 := by rw [hd] at ht; omega
    rw [ht', hd] at p2 ⊢
    generalize sZ m = s at p2 ⊢
    simp only [trp, coef] at p2
    have : s * s = 0 := by grind
    rw [sq s this]; decide
  · obtain ⟨p1, p2⟩ := tr_one h
    have ht' : trcZ m = 0 := by rw [hd] at ht; omega
    rw [ht', hd] at p1 ⊢
    generalize sZ m = s at p1 ⊢
    simp only [trp, coef] at p1
    have : s * (s * s) = 0 := by grind
    have hs : s = 0 := by
      rcases Int.mul_eq_zero.1 this with h | h
      · exact h
      · exact sq s h
    rw [hs]; decide
  · obtain ⟨p1, p2⟩ := tr_one h
    rcases hd with hd | hd
    · have ht' : trcZ m = 1 := by rw [hd] at ht; omega
      rw [ht', hd] at p1 ⊢
      generalize sZ m = s at p1 ⊢
      simp only [trp, coef] at p1
      have : (s - 1) * (s - 1) = 0 := by grind
      have hs : s = 1 := by have := sq _ this; omega
      rw [hs]; decide
    · have ht' : trcZ m = -1 := by rw [hd] at ht; omega
      rw [ht', hd] at p1 ⊢
      generalize sZ m = s at p1 ⊢
      simp only [trp, coef] at p1
      have : (s - 1) * (s - 1) = 0 := by grind
      have hs : s = 1 := by have := sq _ this; omega
      rw [hs]; decide
  · obtain ⟨p1, p2⟩ := tr_one h
    have key : ∀ s : Int, s = 2 ∨ s = 14 ↔ (s - 2) * (s - 14) = 0 := fun s => by
      rw [Int.mul_eq_zero]; omega
    rcases hd with hd | hd
    · have ht' : trcZ m = 2 := by rw [hd] at ht; omega
      rw [ht', hd] at p1 p2 ⊢
      generalize sZ m = s at p1 p2 ⊢
      simp only [trp, coef] at p1 p2
      have : (s - 2) * ((s - 2) * (s - 14)) = 0 := by grind
      have hs : s = 2 ∨ s = 14 := by
        rcases Int.mul_eq_zero.1 this with h | h
        · exact .inl (by omega)
        · exact (key s).2 h
      rcases hs with hs | hs
      · rw [hs]; decide
      · subst hs; exact absurd p2 (by decide)
    · have ht' : trcZ m = -2 := by rw [hd] at ht; omega
      rw [ht', hd] at p1 p2 ⊢
      generalize sZ m = s at p1 p2 ⊢
      simp only [trp, coef] at p1 p2
      have : (s - 2) * ((s - 2) * (s - 14)) = 0 := by grind
      have hs : s = 2 ∨ s = 14 := by
        rcases Int.mul_eq_zero.1 this with h | h
        · exact .inl (by omega)
        · exact (key s).2 h
      rcases hs with hs | hs
      · rw [hs]; decide
      · subst hs; exact absurd p2 (by decide)

/-! ### The code's order -/
theorem uniE_ok {m : M3} (h : uniE m = 0) : Bnd 1000 m ∧ w64 (detZ m) = detZ m ∧ (detZ m = 1 ∨ detZ m = -1) := by
  have he : errM m = 0 := by
    rcases errM_cases m with h4 | h4
    · exact h4
    · unfold uniE at h; rw [if_neg (by rw [h4]; decide), h4] at h; exact absurd h (by decide)
  have hB := okM_B (errM_ok.1 he)
  have hdB := detZ_B hB
  have hw : w64 (detZ m) = detZ m := w64_id (by omega) (by omega)
  unfold uniE at h
  rw [if_pos he, hw] at h
  refine ⟨hB, hw, ?_⟩
  split at h
  · assumption
  · exact absurd h (by decide)
theorem uniE_errM {m : M3} (h : uniE m = 0) : errM m = 0 := errM_ok.2 (B_okM (Int.le_refl _) (uniE_ok h).1)
theorem uniE_of {m : M3} (h : Bnd 1000 m) (hd : detZ m = 1 ∨ detZ m = -1) : uniE m = 0 := by
  have hdB := detZ_B h
  unfold uniE
  rw [if_pos (errM_ok.2 (B_okM (Int.le_refl _) h)), w64_id (by omega) (by omega), if_pos hd]
theorem ordD_eq {m : M3} (h : uniE m = 0) : ordD m = detZ m := by
  unfold ordD selI; rw [if_pos h, (uniE_ok h).2.1]
theorem ordT_eq {m : M3} (h : uniE m = 0) : ordT m = detZ m * trcZ m := by
  obtain ⟨hB, _, hd⟩ := uniE_ok h
  have h1 := hB.xx
  have h2 := hB.yy
  have h3 := hB.zz
  unfold ordT
  rw [ordD_eq h, w64_id (x := m.xx + m.yy) (by omega) (by omega), w64_id (x := m.xx + m.yy + m.zz) (by omega) (by omega)]
  show w64 (detZ m * trcZ m) = _
  have h4 : trcZ m = m.xx + m.yy + m.zz := rfl
  rcases hd with e | e <;> rw [e] <;> exact w64_id (by omega) (by omega)
theorem rordZ_eq {m : M3} (h : uniE m = 0) : rordZ m = rordX m := by
  obtain ⟨hB, hw, _⟩ := uniE_ok h
  have h1 := wM_id (by decide) (mulZ_B hB hB)
  have h2 := wM_id (by decide) (adjZ_B hB)
  have h3 := trcZ_B hB
  have h4 := trcZ_B (adjZ_B hB)
  unfold rordZ rordX
  rw [h1, h2, hw, w64_id (x := trcZ m) (by omega) (by omega), w64_id (x := trcZ (adjZ m)) (by omega) (by omega)]
  rfl
theorem powZ_is {m : M3} (h : Bnd 1000 m) (k : Nat) (h6 : k ≤ 6) : powZ m (k : Int) = true ↔ powI m k = oneZ 1 := by
  have := powZ_iff h (n := (k : Int)) (by omega)
  rwa [Int.toNat_natCast] at this
theorem powZ_isnt {m : M3} (h : Bnd 1000 m) (k : Nat) (h6 : k ≤ 6) (hp : powI m k ≠ oneZ 1) : powZ m (k : Int) = false := by
  rw [Bool.eq_false_iff]; exact fun e => hp ((powZ_is h k h6).1 e)
theorem ordN_val {m : M3} (h : uniE m = 0) {b n : Int} (hb : mgetD eqI ordMap (detZ m * trcZ m) = b) (hn : (if detZ m < 0 then (if Int.tmod b 2 = 1 then w64 (b * 2) else b) else b) = n) : ordN m = n := by
  unfold ordN ordB; rw [ordD_eq h, ordT_eq h, hb, hn]
theorem mhas_val {m : M3} (h : uniE m = 0) : mhas eqI ordMap (ordT m) = mhas eqI ordMap (detZ m * trcZ m) := by rw [ordT_eq h]
/-- What the code finds, if its table's power is the identity. -/
theorem ordR_found {m : M3} (h : uniE m = 0) {n r : Int} (hm : mhas eqI ordMap (detZ m * trcZ m) = true) (hn : ordN m = n) (hp : powZ m n = true) (hk : ordK m n 6 1 = r) : ordR m = (r, 0) := by
  unfold ordR; rw [if_pos h, mhas_val h, if_pos hm, hn, if_pos hp, hk]
theorem ordR_eq {m : M3} (h : uniE m = 0) : ordR m = (rordX m, if rordX m = 0 then 9 else 0) := by
  obtain ⟨hB, hw, hd⟩ := uniE_ok h
  by_cases h1 : m = oneZ 1
  · have e1 : rordX m = 1 := by unfold rordX; rw [if_pos (eqM_iff.2 h1)]
    rw [e1]
    have ht : detZ m * trcZ m = 3 := by rw [h1]; decide
    have hdd : detZ m = 1 := by rw [h1]; decide
    refine ordR_found h (n := 1) (by rw [ht]; decide) (ordN_val h (b := 1) (by rw [ht]; decide) (by rw [hdd]; decide)) ((powZ_is hB 1 (by decide)).2 (by rw [powI_one]; exact h1)) ?_
    unfold ordK; rw [if_neg (by decide)]
  have f1 : powZ m 1 = false := powZ_isnt hB 1 (by decide) (by rw [powI_one]; exact h1)
  have n1 : ∀ n, ordHit m n 1 = false := fun n => by unfold ordHit; rw [f1, Bool.and_false]
  have x1 : eqM m (oneZ 1) ≠ true := fun e => h1 (eqM_iff.1 e)
  by_cases h2 : mulZ m m = oneZ 1
  · have e1 : rordX m = 2 := by unfold rordX; rw [if_neg x1, if_pos (eqM_iff.2 h2)]
    rw [e1]
    have hk : ordK m 2 6 1 = 2 := by
      rw [ordK, if_pos (by decide), n1, if_neg (by decide), ordK, if_neg (by decide)]
    have hp : powZ m 2 = true := (powZ_is hB 2 (by decide)).2 (by rw [powI_two]; exact h2)
    rcases scalar_case h2 h1 hd with ht | ⟨hdd, ht⟩
    · refine ordR_found h (n := 2) (by rw [ht]; decide) (ordN_val h (b := 2) (by rw [ht]; decide) ?_) hp hk
      rcases hd with e | e <;> rw [e] <;> decide
    · refine ordR_found h (n := 2) (by rw [ht, hdd]; decide) (ordN_val h (b := 1) (by rw [ht, hdd]; decide) (by rw [hdd]; decide)) hp hk
  have f2 : powZ m 2 = false := powZ_isnt hB 2 (by decide) (by rw [powI_two]; exact h2)
  have n2 : ∀ n, ordHit m n 2 = false := fun n => by unfold ordHit; rw [f2, Bool.and_false]
  have x2 : eqM (mulZ m m) (oneZ 1) ≠ true := fun e => h2 (eqM_iff.1 e)
  have er : rordX m = rordC (trcZ m) (sZ m) (detZ m) := by unfold rordX; rw [if_neg x1, if_neg x2]
  have tmods : Int.tmod 3 2 = 1 ∧ Int.tmod 4 3 = 1 ∧ Int.tmod 6 4 = 2 ∧ Int.tmod 6 5 = 1 := by decide
  have k3 : ordK m 3 6 1 = 3 := by
    rw [ordK, if_pos (by decide), n1, if_neg (by decide), ordK, if_pos (by decide), show (1 : Int) + 1 = 2 by decide, n2, if_neg (by decide), ordK, if_neg (by decide)]
  have k4 : ordK m 4 6 1 = 4 := by
    have n3 : ordHit m 4 3 = false := by unfold ordHit; rw [tmods.2.1]; rfl
    rw [ordK, if_pos (by decide), n1, if_neg (by decide), ordK, if_pos (by decide), show (1 : Int) + 1 = 2 by decide, n2, if_neg (by decide), ordK, if_pos (by decide), show (2 : Int) + 1 = 3 by decide, n3, if_neg (by decide), ordK, if_neg (by decide)]
  have k6 : powI m 3 ≠ oneZ 1 → ordK m 6 6 1 = 6 := fun h3 => by
    have f3 : powZ m 3 = false := powZ_isnt hB 3 (by decide) h3
    have n3 : ordHit m 6 3 = false := by unfold ordHit; rw [f3, Bool.and_false]
    have n4 : ordHit m 6 4 = false := by unfold ordHit; rw [tmods.2.2.1]; rfl
    have n5 : ordHit m 6 5 = false := by unfold ordHit; rw [tmods.2.2.2]; rfl
    rw [ordK, if_pos (by decide), n1, if_neg (by decide), ordK, if_pos (by decide), show (1 : Int) + 1 = 2 by decide, n2, if_neg (by decide), ordK, if_pos (by decide), show (2 : Int) + 1 = 3 by decide, n3, if_neg (by decide), ordK, if_pos (by decide), show (3 : Int) + 1 = 4 by decide, n4, if_neg (by decide), ordK, if_pos (by decide), show (4 : Int) + 1 = 5 by decide, n5, if_neg (by decide), ordK, if_neg (by decide)]
  have lin_one : ∀ k, coef (trcZ m) (sZ m) (detZ m) k = (0, 0, 1) → powI m k = oneZ 1 := fun k hk => by
    rw [powI_lin, hk]; simp [linZ, oneZ]
  rw [er]
  have found : ∀ (n : Nat) (b : Int), n ≤ 6 → mgetD eqI ordMap (detZ m * trcZ m) = b → mhas eqI ordMap (detZ m * trcZ m) = true → (if detZ m < 0 then (if Int.tmod b 2 = 1 then w64 (b * 2) else b) else b) = (n : Int) → powI m n = oneZ 1 → ordK m n 6 1 = n → ordR m = ((n : Int), 0) := fun n b hn hb hm hv hp hk =>
    ordR_found h (n := (n : Int)) hm (ordN_val h hb hv) ((powZ_is hB n hn).2 hp) hk
  have tr3 : ∀ k : Nat, powI m k = oneZ 1 → trp (trcZ m) (sZ m) (detZ m) k = 3 := fun k hk => (tr_one hk).1
  generalize hC : rordC (trcZ m) (sZ m) (detZ m) = r
  unfold rordC at hC
  split at hC
  · rename_i e
    obtain ⟨e1, e2, e3⟩ := e
    subst hC
    exact found 3 3 (by decide) (by rw [e1, e3]; decide) (by rw [e1, e3]; decide) (by rw [e3]; decide) (lin_one 3 (by rw [e1, e2, e3]; decide)) k3
  · split at hC
    · rename_i e
      subst hC
      rcases e with ⟨e1, e2, e3⟩ | ⟨e1, e2, e3⟩ <;> exact found 4 4 (by decide) (by rw [e1, e3]; decide) (by rw [e1, e3]; decide) (by rw [e3]; decide) (lin_one 4 (by rw [e1, e2, e3]; decide)) k4
    · split at hC
      · rename_i e
        subst hC
        rcases e with ⟨e1, e2, e3⟩ | ⟨e1, e2, e3⟩ | ⟨e1, e2, e3⟩
        · exact found 6 3 (by decide) (by rw [e1, e3]; decide) (by rw [e1, e3]; decide) (by rw [e3]; decide) (lin_one 6 (by rw [e1, e2, e3]; decide)) (k6 fun h3 => absurd (tr3 3 h3) (by rw [e1, e2, e3]; decide))
        · exact found 6 6 (by decide) (by rw [e1, e3]; decide) (by rw [e1, e3]; decide) (by rw [e3]; decide) (lin_one 6 (by rw [e1, e2, e3]; decide)) (k6 fun h3 => absurd (tr3 3 h3) (by rw [e1, e2, e3]; decide))
        · exact found 6 6 (by decide) (by rw [e1, e3]; decide) (by rw [e1, e3]; decide) (by rw [e3]; decide) (lin_one 6 (by rw [e1, e2, e3]; decide)) (k6 fun h3 => absurd (tr3 3 h3) (by rw [e1, e2, e3]; decide))
      · rename_i c3 c4 c6
        subst hC
        have hC : rordC (trcZ m) (sZ m) (detZ m) = 0 := by unfold rordC; rw [if_neg c3, if_neg c4, if_neg c6]
        obtain ⟨q1, q2, q3, q4⟩ := table_rord hd
        show ordR m = (0, 9)
        unfold ordR
        rw [if_pos h, mhas_val h]
        split
        · rename_i hm
          rw [if_neg]
          intro hp
          have hN : ∀ {b : Int} {n : Nat}, n ≤ 6 → mgetD eqI ordMap (detZ m * trcZ m) = b → (if detZ m < 0 then (if Int.tmod b 2 = 1 then w64 (b * 2) else b) else b) = (n : Int) → powI m n = oneZ 1 := fun {b n} hn hb hv => by
            rw [ordN_val h hb hv] at hp
            exact (powZ_is hB n hn).1 hp
          have hx : detZ m * trcZ m = 3 ∨ detZ m * trcZ m = 2 ∨ detZ m * trcZ m = 1 ∨ detZ m * trcZ m = 0 ∨ detZ m * trcZ m = -1 := by
            unfold mhas at hm
            generalize detZ m * trcZ m = x at hm
            simp only [ordMap, mfind, eqI, decide_eq_true_eq] at hm
            by_cases e1 : (3 : Int) = x
            · exact .inl e1.symm
            by_cases e2 : (2 : Int) = x
            · exact .inr (.inl e2.symm)
            by_cases e3 : (1 : Int) = x
            · exact .inr (.inr (.inl e3.symm))
            by_cases e4 : (0 : Int) = x
            · exact .inr (.inr (.inr (.inl e4.symm)))
            by_cases e5 : (-1 : Int) = x
            · exact .inr (.inr (.inr (.inr e5.symm)))
            rw [if_neg e1, if_neg e2, if_neg e3, if_neg e4, if_neg e5] at hm
            cases hm
          have no1 : powI m 1 ≠ oneZ 1 := by rw [powI_one]; exact h1
          have no2 : powI m 2 ≠ oneZ 1 := by rw [powI_two]; exact h2
          rcases hx with e | e | e | e | e
          · rcases hd with hd | hd
            · exact no1 (hN (b := 1) (n := 1) (by decide) (by rw [e]; decide) (by rw [hd]; decide))
            · exact no2 (hN (b := 1) (n := 2) (by decide) (by rw [e]; decide) (by rw [hd]; decide))
          · have := q4 e (hN (b := 6) (n := 6) (by decide) (by rw [e]; decide) (by rcases hd with hd | hd <;> rw [hd] <;> decide))
            rw [hC] at this; exact absurd this (by decide)
          · have := q3 e (hN (b := 4) (n := 4) (by decide) (by rw [e]; decide) (by rcases hd with hd | hd <;> rw [hd] <;> decide))
            rw [hC] at this; exact absurd this (by decide)
          · rcases hd with hd | hd
            · have := q1 e hd (hN (b := 3) (n := 3) (by decide) (by rw [e]; decide) (by rw [hd]; decide))
              rw [hC] at this; exact absurd this (by decide)
            · have := q2 e hd (hN (b := 3) (n := 6) (by decide) (by rw [e]; decide) (by rw [hd]; decide))
              rw [hC] at this; exact absurd this (by decide)
          · exact no2 (hN (b := 2) (n := 2) (by decide) (by rw [e]; decide) (by rcases hd with hd | hd <;> rw [hd] <;> decide))
        · rfl
theorem ord_doc (m : M3) : ordZ m = docO m ∧ ordE m = docE m := by
  unfold ordZ ordE docO docE
  by_cases h : uniE m = 0
  · rw [if_pos h, if_pos h, ordR_eq h, rordZ_eq h]; exact ⟨rfl, rfl⟩
  · unfold ordR; rw [if_neg h, if_neg h, if_neg h]; exact ⟨rfl, rfl⟩
end Go.Fx
