/-
  Orders of small matrices; matrices told from elsewhere; inverses.
-/
import Derived.Test.YthljaepanhdmiaaW
namespace Go.Fx
open Go

theorem tmod_B {k x : Int} (hk : 0 ≤ k) : -k ≤ Int.tmod x (k + 1) ∧ Int.tmod x (k + 1) ≤ k := by
  have hr : (x.tmod (k + 1)).natAbs < (k + 1).natAbs := by rw [Int.natAbs_tmod]; exact Nat.mod_lt _ (by omega)
  omega
theorem tamM_B {k : Int} (hk : 0 ≤ k) (m : M3) : Bnd k (tamM k m) :=
  ⟨tmod_B hk, tmod_B hk, tmod_B hk, tmod_B hk, tmod_B hk, tmod_B hk, tmod_B hk, tmod_B hk, tmod_B hk⟩
theorem adj_r (m : M3) : mulZ m (adjZ m) = oneZ (detZ m) := by
  simp only [mulZ, adjZ, oneZ, detZ, M3.mk.injEq]
  refine ⟨?_, ?_, ?_, ?_, ?_, ?_, ?_, ?_, ?_⟩ <;> grind
theorem adj_l (m : M3) : mulZ (adjZ m) m = oneZ (detZ m) := by
  simp only [mulZ, adjZ, oneZ, detZ, M3.mk.injEq]
  refine ⟨?_, ?_, ?_, ?_, ?_, ?_, ?_, ?_, ?_⟩ <;> grind
theorem sca_l (n : Int) (a b : M3) : mulZ (scaZ n a) b = scaZ n (mulZ a b) := by
  simp only [mulZ, scaZ, M3.mk.injEq]
  refine ⟨?_, ?_, ?_, ?_, ?_, ?_, ?_, ?_, ?_⟩ <;> grind
theorem sca_r (n : Int) (a b : M3) : mulZ a (scaZ n b) = scaZ n (mulZ a b) := by
  simp only [mulZ, scaZ, M3.mk.injEq]
  refine ⟨?_, ?_, ?_, ?_, ?_, ?_, ?_, ?_, ?_⟩ <;> grind
theorem sca_one (n k : Int) : scaZ n (oneZ k) = oneZ (k * n) := by
  simp [scaZ, oneZ]
def invZ (m : M3) : M3 := scaZ (detZ m) (adjZ m)
theorem unit_sq {d : Int} (h : d = 1 ∨ d = -1) : d * d = 1 := by rcases h with rfl | rfl <;> rfl
theorem inv_r {m : M3} (h : detZ m = 1 ∨ detZ m = -1) : mulZ m (invZ m) = oneZ 1 := by
  unfold invZ; rw [sca_r, adj_r, sca_one, unit_sq h]
theorem inv_l {m : M3} (h : detZ m = 1 ∨ detZ m = -1) : mulZ (invZ m) m = oneZ 1 := by
  unfold invZ; rw [sca_l, adj_l, sca_one, unit_sq h]
theorem powI_add (m : M3) (a : Nat) : ∀ b, powI m (a + b) = mulZ (powI m a) (powI m b)
  | 0 => (mulZ_one _).2.symm
  | b + 1 => by rw [← Nat.add_assoc, powI, powI_add m a b, mulZ_assoc]; rfl
theorem powI_mul {m : M3} {n : Nat} (h : powI m n = oneZ 1) (r : Nat) : ∀ q, powI m (n * q + r) = powI m r
  | 0 => by rw [Nat.mul_zero, Nat.zero_add]
  | q + 1 => by
    rw [Nat.mul_succ, show n * q + n + r = n + (n * q + r) by omega, powI_add, h, (mulZ_one _).1]
    exact powI_mul h r q
theorem pow_iff {m : M3} {n : Nat} (hn : 1 ≤ n) (h : powI m n = oneZ 1) (hj : ∀ j, 1 ≤ j → j < n → powI m j ≠ oneZ 1) (k : Nat) : powI m k = oneZ 1 ↔ k % n = 0 := by
  have e : powI m k = powI m (k % n) := by
    have := powI_mul h (k % n) (k / n)
    rwa [Nat.div_add_mod] at this
  rw [e]
  constructor
  · intro h1
    by_cases h0 : k % n = 0
    · exact h0
    · exact absurd h1 (hj _ (by omega) (Nat.mod_lt _ (by omega)))
  · intro h0; rw [h0]; rfl
theorem tr_not {m : M3} {k : Nat} {t s d : Int} (h1 : trcZ m = t) (h2 : sZ m = s) (h3 : detZ m = d) (h : trp t s d k ≠ 3) : powI m k ≠ oneZ 1 := fun e => h (by have := (tr_one e).1; rwa [h1, h2, h3] at this)
/-- The order that is told is the least. -/
theorem min_order {m : M3} (hr : rordX m ≠ 0) : ∃ n : Nat, rordX m = n ∧ 1 ≤ n ∧ n ≤ 6 ∧ n ≠ 5 ∧ powI m n = oneZ 1 ∧ ∀ j, 1 ≤ j → j < n → powI m j ≠ oneZ 1 := by
  by_cases h1 : m = oneZ 1
  · exact ⟨1, by unfold rordX; rw [if_pos (eqM_iff.2 h1)]; rfl, by decide, by decide, by decide, by rw [powI_one]; exact h1, fun j a b => by omega⟩
  have x1 : eqM m (oneZ 1) ≠ true := fun e => h1 (eqM_iff.1 e)
  have p1 : powI m 1 ≠ oneZ 1 := by rw [powI_one]; exact h1
  by_cases h2 : mulZ m m = oneZ 1
  · refine ⟨2, by unfold rordX; rw [if_neg x1, if_pos (eqM_iff.2 h2)]; rfl, by decide, by decide, by decide, by rw [powI_two]; exact h2, fun j a b => ?_⟩
    obtain rfl : j = 1 := by omega
    exact p1
  have x2 : eqM (mulZ m m) (oneZ 1) ≠ true := fun e => h2 (eqM_iff.1 e)
  have p2 : powI m 2 ≠ oneZ 1 := by rw [powI_two]; exact h2
  have er : rordX m = rordC (trcZ m) (sZ m) (detZ m) := by unfold rordX; rw [if_neg x1, if_neg x2]
  have lin_one : ∀ k, coef (trcZ m) (sZ m) (detZ m) k = (0, 0, 1) → powI m k = oneZ 1 := fun k hk => by
    rw [powI_lin, hk]; simp [linZ, oneZ]
  rw [er] at hr ⊢
  generalize hC : rordC (trcZ m) (sZ m) (detZ m) = r at hr ⊢
  unfold rordC at hC
  split at hC
  · rename_i e
    obtain ⟨e1, e2, e3⟩ := e
    refine ⟨3, hC.symm, by decide, by decide, by decide, lin_one 3 (by rw [e1, e2, e3]; decide), fun j a b => ?_⟩
    obtain rfl | rfl : j = 1 ∨ j = 2 := by omega
    · exact p1
    · exact p2
  · split at hC
    · rename_i e
      rcases e with ⟨e1, e2, e3⟩ | ⟨e1, e2, e3⟩ <;>
      · refine ⟨4, hC.symm, by decide, by decide, by decide, lin_one 4 (by rw [e1, e2, e3]; decide), fun j a b => ?_⟩
        obtain rfl | rfl | rfl : j = 1 ∨ j = 2 ∨ j = 3 := by omega
        · exact p1
        · exact p2
        · exact tr_not e1 e2 e3 (by decide)
    · split at hC
      · rename_i e
        rcases e with ⟨e1, e2, e3⟩ | ⟨e1, e2, e3⟩ | ⟨e1, e2, e3⟩ <;>
        · refine ⟨6, hC.symm, by decide, by decide, by decide, lin_one 6 (by rw [e1, e2, e3]; decide), fun j a b => ?_⟩
          obtain rfl | rfl | rfl | rfl | rfl : j = 1 ∨ j = 2 ∨ j = 3 ∨ j = 4 ∨ j = 5 := by omega
          · exact p1
          · exact p2
          · exact tr_not e1 e2 e3 (by decide)
          · exact tr_not e1 e2 e3 (by decide)
          · exact tr_not e1 e2 e3 (by decide)
      · exact absurd hC.symm hr

/-! ### Small matrices without an order -/
theorem trp_rec (t s d : Int) (k : Nat) : trp t s d (k + 3) = t * trp t s d (k + 2) - s * trp t s d (k + 1) + d * trp t s d k := by
  simp only [trp, coef]
  generalize (coef t s d k).1 = a
  generalize (coef t s d k).2.1 = b
  generalize (coef t s d k).2.2 = c
  grind
def goodC (t s d : Int) : Bool := !decide (rordC t s d = 0) || (decide (t = 3) && decide (s = 3) && decide (d = 1)) || (decide (t = -3) && decide (s = 3) && decide (d = -1)) || (decide (t = 1) && decide (s = -1) && decide (d = -1)) || (decide (t = -1) && decide (s = -1) && decide (d = 1))
def chk (t s d : Int) : Nat → Int → Int → Int → Bool
  | 0, _, _, _ => true
  | f + 1, p, q, r => (!(decide (p = 3) && decide (q = t) && decide (r = t * t - 2 * s)) || goodC t s d) && chk t s d f q r (t * r - s * q + d * p)
def chkS (t d : Int) : Nat → Int → Bool
  | 0, _ => true
  | f + 1, s => chk t s d 12 t (t * t - 2 * s) (t * (t * t - 2 * s) - s * t + d * 3) && chkS t d f (s + 1)
def chkT (d : Int) : Nat → Int → Bool
  | 0, _ => true
  | f + 1, t => chkS t d 109 (-54) && chkT d f (t + 1)
theorem chk_all : chkT 1 19 (-9) = true ∧ chkT (-1) 19 (-9) = true := by decide +kernel
theorem chkT_at {d : Int} : ∀ (f : Nat) (t0 : Int), chkT d f t0 = true → ∀ t, t0 ≤ t → t < t0 + f → chkS t d 109 (-54) = true
  | 0, t0, _, t, h1, h2 => by omega
  | f + 1, t0, h, t, h1, h2 => by
    unfold chkT at h
    rw [Bool.and_eq_true] at h
    by_cases e : t = t0
    · rw [e]; exact h.1
    · exact chkT_at f (t0 + 1) h.2 t (by omega) (by omega)
theorem chkS_at {t d : Int} : ∀ (f : Nat) (s0 : Int), chkS t d f s0 = true → ∀ s, s0 ≤ s → s < s0 + f → chk t s d 12 t (t * t - 2 * s) (t * (t * t - 2 * s) - s * t + d * 3) = true
  | 0, s0, _, s, h1, h2 => by omega
  | f + 1, s0, h, s, h1, h2 => by
    unfold chkS at h
    rw [Bool.and_eq_true] at h
    by_cases e : s = s0
    · rw [e]; exact h.1
    · exact chkS_at f (s0 + 1) h.2 s (by omega) (by omega)
theorem chk_at {t s d : Int} : ∀ (f k : Nat), chk t s d f (trp t s d k) (trp t s d (k + 1)) (trp t s d (k + 2)) = true → ∀ j, k ≤ j → j < k + f → trp t s d j = 3 → trp t s d (j + 1) = t → trp t s d (j + 2) = t * t - 2 * s → goodC t s d = true
  | 0, k, _, j, h1, h2, _, _, _ => by omega
  | f + 1, k, h, j, h1, h2, a, b, c => by
    unfold chk at h
    rw [Bool.and_eq_true] at h
    by_cases e : j = k
    · subst e
      have := h.1
      rw [a, b, c] at this
      simpa using this
    · rw [← trp_rec] at h
      exact chk_at f (k + 1) h.2 j (by omega) (by omega) a b c
theorem lin_sp {m : M3} {k : Nat} (h : powI m k = oneZ 1) {a b c a' b' c' : Int} (e1 : coef (trcZ m) (sZ m) (detZ m) k = (a, b, c)) (e2 : coef (trcZ m) (sZ m) (detZ m) (k + 1) = (a', b', c'))
    (hx : ∀ x y z : Int, (z = 0 ∨ z = 1) → a * x + b * y + c * z = z → a' * x + b' * y + c' * z = y → x = z) : mulZ m m = oneZ 1 := by
  have h1 := h
  have h2 : powI m (k + 1) = m := by rw [powI, h, (mulZ_one m).1]
  rw [powI_lin, e1] at h1
  rw [powI_lin, e2] at h2
  simp only [linZ, oneZ] at h1
  unfold linZ at h2
  clear h e1 e2
  obtain ⟨y1, y2, y3, y4, y5, y6, y7, y8, y9⟩ := m
  generalize mulZ ⟨y1, y2, y3, y4, y5, y6, y7, y8, y9⟩ ⟨y1, y2, y3, y4, y5, y6, y7, y8, y9⟩ = q at h1 h2 ⊢
  obtain ⟨x1, x2, x3, x4, x5, x6, x7, x8, x9⟩ := q
  simp only [M3.mk.injEq, oneZ] at h1 h2 ⊢
  obtain ⟨p1, p2, p3, p4, p5, p6, p7, p8, p9⟩ := h1
  obtain ⟨q1, q2, q3, q4, q5, q6, q7, q8, q9⟩ := h2
  exact ⟨hx x1 y1 1 (.inr rfl) (by omega) (by omega), hx x2 y2 0 (.inl rfl) (by omega) (by omega), hx x3 y3 0 (.inl rfl) (by omega) (by omega), hx x4 y4 0 (.inl rfl) (by omega) (by omega), hx x5 y5 1 (.inr rfl) (by omega) (by omega), hx x6 y6 0 (.inl rfl) (by omega) (by omega),
    hx x7 y7 0 (.inl rfl) (by omega) (by omega), hx x8 y8 0 (.inl rfl) (by omega) (by omega), hx x9 y9 1 (.inr rfl) (by omega) (by omega)⟩
def spC (t s d : Int) (k : Nat) : Bool :=
  !decide (trp t s d k = 3) ||
  (!decide ((coef t s d k).1 * ((coef t s d (k + 1)).2.1 - 1) - (coef t s d (k + 1)).1 * (coef t s d k).2.1 = 0) && decide (((coef t s d k).2.2 - 1) * ((coef t s d (k + 1)).2.1 - 1) - (coef t s d (k + 1)).2.2 * (coef t s d k).2.1 = -((coef t s d k).1 * ((coef t s d (k + 1)).2.1 - 1) - (coef t s d (k + 1)).1 * (coef t s d k).2.1))) ||
  (decide ((coef t s d k).2.1 = 0) && !decide ((coef t s d k).1 = 0) && decide ((coef t s d k).2.2 - 1 = -(coef t s d k).1))
theorem sp_ok {m : M3} {k : Nat} {t s d : Int} (ht : trcZ m = t) (hs : sZ m = s) (hd : detZ m = d) (h : powI m k = oneZ 1) (hc : spC t s d k = true) : mulZ m m = oneZ 1 := by
  have t3 := (tr_one h).1
  rw [ht, hs, hd] at t3
  unfold spC at hc
  rw [t3] at hc
  refine lin_sp h (a := (coef t s d k).1) (b := (coef t s d k).2.1) (c := (coef t s d k).2.2) (a' := (coef t s d (k + 1)).1) (b' := (coef t s d (k + 1)).2.1) (c' := (coef t s d (k + 1)).2.2) (by rw [ht, hs, hd]) (by rw [ht, hs, hd]) ?_
  intro x y z _ e1 e2
  generalize (coef t s d k).1 = a at *
  generalize (coef t s d k).2.1 = b at *
  generalize (coef t s d k).2.2 = c at *
  generalize (coef t s d (k + 1)).1 = a' at *
  generalize (coef t s d (k + 1)).2.1 = b' at *
  generalize (coef t s d (k + 1)).2.2 = c' at *
  simp only [decide_true, Bool.not_true, Bool.false_or, Bool.or_eq_true, Bool.and_eq_true, Bool.not_eq_true', decide_eq_true_eq, decide_eq_false_iff_not] at hc
  rcases hc with ⟨w, e3⟩ | ⟨⟨b0, a0⟩, e3⟩
  · have : (a * (b' - 1) - a' * b) * (x - z) = 0 := by grind
    have := (Int.mul_eq_zero.1 this).resolve_left w
    omega
  · have : a * (x - z) = 0 := by grind
    have := (Int.mul_eq_zero.1 this).resolve_left a0
    omega
theorem none12 {m : M3} (hb : Bnd 3 m) (hd : detZ m = 1 ∨ detZ m = -1) (h0 : rordX m = 0) {k : Nat} (k1 : 1 ≤ k) (k2 : k ≤ 12) : powI m k ≠ oneZ 1 := by
  intro h
  have ht := trcZ_B hb
  have hs := trcZ_B (adjZ_B hb)
  have hs1 : -54 ≤ sZ m := by unfold sZ; omega
  have hs2 : sZ m ≤ 54 := by unfold sZ; omega
  have t0 := tr_one h
  have t2 : trp (trcZ m) (sZ m) (detZ m) (k + 2) = trcZ m * trcZ m - 2 * sZ m := by
    rw [← trc_pow, show k + 2 = k + 1 + 1 by omega, powI, powI, h, (mulZ_one m).1]
    have := trc_lin 1 0 0 m
    have e : linZ 1 0 0 m = mulZ m m := by cases e : mulZ m m; simp [linZ, e]
    rw [e] at this
    omega
  have hg : goodC (trcZ m) (sZ m) (detZ m) = true := by
    have key : ∀ d, (d = 1 ∨ d = -1) → chkT d 19 (-9) = true := fun d hd => by rcases hd with rfl | rfl; exact chk_all.1; exact chk_all.2
    have c1 := chkT_at 19 (-9) (key _ hd) (trcZ m) (by omega) (by omega)
    have c2 := chkS_at 109 (-54) c1 (sZ m) (by omega) (by omega)
    have p1 : trp (trcZ m) (sZ m) (detZ m) 1 = trcZ m := by simp [trp, coef]
    have p2 : trp (trcZ m) (sZ m) (detZ m) 2 = trcZ m * trcZ m - 2 * sZ m := by simp [trp, coef]
    have p3 : trp (trcZ m) (sZ m) (detZ m) 3 = trcZ m * (trcZ m * trcZ m - 2 * sZ m) - sZ m * trcZ m + detZ m * 3 := by
      have := trp_rec (trcZ m) (sZ m) (detZ m) 0
      rw [p2, p1] at this
      rw [this]; simp [trp, coef]
    rw [← p3, ← p2] at c2
    exact chk_at 12 1 (show chk _ _ _ 12 (trp (trcZ m) (sZ m) (detZ m) 1) (trp (trcZ m) (sZ m) (detZ m) 2) (trp (trcZ m) (sZ m) (detZ m) 3) = true by rw [p1]; exact c2) k k1 (by omega) t0.1 t0.2 t2
  unfold rordX at h0
  split at h0
  · exact absurd h0 (by decide)
  · split at h0
    · exact absurd h0 (by decide)
    · rename_i x1 x2
      have no2 : mulZ m m ≠ oneZ 1 := fun e => x2 (eqM_iff.2 e)
      unfold goodC at hg
      rw [h0] at hg
      simp only [decide_true, Bool.not_true, Bool.false_or, Bool.or_eq_true, Bool.and_eq_true, decide_eq_true_eq] at hg
      have kk : k = 1 ∨ k = 2 ∨ k = 3 ∨ k = 4 ∨ k = 5 ∨ k = 6 ∨ k = 7 ∨ k = 8 ∨ k = 9 ∨ k = 10 ∨ k = 11 ∨ k = 12 := by omega
      rcases hg with ((⟨⟨e1, e2⟩, e3⟩ | ⟨⟨e1, e2⟩, e3⟩) | ⟨⟨e1, e2⟩, e3⟩) | ⟨⟨e1, e2⟩, e3⟩ <;> rcases kk with rfl | rfl | rfl | rfl | rfl | rfl | rfl | rfl | rfl | rfl | rfl | rfl <;>
        exact no2 (sp_ok e1 e2 e3 h (by decide))

/-! ### Told from elsewhere -/
section
variable {P q M : M3} (h1 : mulZ P q = oneZ 1) (h2 : mulZ q P = oneZ 1)
include h2
theorem conj_pow (h1 : mulZ P q = oneZ 1) : ∀ k, powI (mulZ (mulZ P M) q) k = mulZ (mulZ P (powI M k)) q
  | 0 => by rw [powI, powI, (mulZ_one P).2, h1]
  | k + 1 => by
    rw [powI, conj_pow h1 k, powI, mulZ_assoc (mulZ P (powI M k)) q, ← mulZ_assoc q (mulZ P M), ← mulZ_assoc q P, h2, (mulZ_one M).1, ← mulZ_assoc (mulZ P (powI M k)) M, mulZ_assoc P (powI M k) M]
omit h2 in
theorem trc_comm (a b : M3) : trcZ (mulZ a b) = trcZ (mulZ b a) := by
  simp only [trcZ, mulZ]; grind
theorem trc_conj (X : M3) : trcZ (mulZ (mulZ P X) q) = trcZ X := by
  rw [trc_comm, ← mulZ_assoc, h2, (mulZ_one X).1]
theorem conj_one (X : M3) (h1 : mulZ P q = oneZ 1) : mulZ (mulZ P X) q = oneZ 1 ↔ X = oneZ 1 := by
  constructor
  · intro h
    have : mulZ (mulZ q (mulZ (mulZ P X) q)) P = X := by
      rw [← mulZ_assoc, ← mulZ_assoc, h2, (mulZ_one X).1, mulZ_assoc, h2, (mulZ_one X).2]
    rw [← this, h, (mulZ_one q).2, h2]
  · rintro rfl
    rw [(mulZ_one P).2, h1]
theorem conj_tsd (h1 : mulZ P q = oneZ 1) : trcZ (mulZ (mulZ P M) q) = trcZ M ∧ sZ (mulZ (mulZ P M) q) = sZ M ∧ detZ (mulZ (mulZ P M) q) = detZ M := by
  have hk : ∀ k, trp (trcZ (mulZ (mulZ P M) q)) (sZ (mulZ (mulZ P M) q)) (detZ (mulZ (mulZ P M) q)) k = trp (trcZ M) (sZ M) (detZ M) k := fun k => by
    rw [← trc_pow, ← trc_pow, conj_pow h2 h1, trc_conj h2]
  have e1 := hk 1
  have e2 := hk 2
  have e3 := hk 3
  simp only [trp, coef] at e1 e2 e3
  generalize trcZ (mulZ (mulZ P M) q) = t at *
  generalize sZ (mulZ (mulZ P M) q) = s at *
  generalize detZ (mulZ (mulZ P M) q) = d at *
  have a1 : t = trcZ M := by grind
  subst a1
  have a2 : s = sZ M := by grind
  subst a2
  exact ⟨rfl, rfl, by grind⟩
theorem conj_ord (h1 : mulZ P q = oneZ 1) : rordX (mulZ (mulZ P M) q) = rordX M := by
  obtain ⟨e1, e2, e3⟩ := conj_tsd (M := M) h2 h1
  have e4 : eqM (mulZ (mulZ P M) q) (oneZ 1) = eqM M (oneZ 1) := by
    rw [Bool.eq_iff_iff, eqM_iff, eqM_iff]; exact conj_one h2 M h1
  have e5 : mulZ (mulZ (mulZ P M) q) (mulZ (mulZ P M) q) = mulZ (mulZ P (mulZ M M)) q := by
    have := conj_pow (M := M) h2 h1 2
    rwa [powI_two, powI_two] at this
  have e6 : eqM (mulZ (mulZ (mulZ P M) q) (mulZ (mulZ P M) q)) (oneZ 1) = eqM (mulZ M M) (oneZ 1) := by
    rw [e5, Bool.eq_iff_iff, eqM_iff, eqM_iff]; exact conj_one h2 _ h1
  unfold rordX
  rw [e4, e6, e1, e2, e3]
end
theorem ord_vals {m : M3} (h : uniE m = 0) : ordZ m = rordX m ∧ ordE m = if rordX m = 0 then 9 else 0 := by
  unfold ordZ ordE; rw [ordR_eq h]; exact ⟨rfl, rfl⟩
theorem err2_zero {a b : Int} (h : err2 a b = 0) : a = 0 ∧ b = 0 := by
  unfold err2 at h; split at h
  · exact ⟨by assumption, h⟩
  · exact absurd h (by assumption)
theorem errM_B {k : Int} {m : M3} (hk : k ≤ 1000) (h : Bnd k m) : errM m = 0 := errM_ok.2 (B_okM hk h)
theorem sca_B {k : Int} {m : M3} (h : Bnd k m) {d : Int} (hd : d = 1 ∨ d = -1) : Bnd k (scaZ d m) := by
  obtain ⟨⟨a1, b1⟩, ⟨a2, b2⟩, ⟨a3, b3⟩, ⟨a4, b4⟩, ⟨a5, b5⟩, ⟨a6, b6⟩, ⟨a7, b7⟩, ⟨a8, b8⟩, ⟨a9, b9⟩⟩ := h
  rcases hd with rfl | rfl <;> (refine ⟨?_, ?_, ?_, ?_, ?_, ?_, ?_, ?_, ?_⟩ <;> (simp only [scaZ]; constructor <;> omega))
def VpTail (M P : M3) (n e : Int) : Prop := (True ∧
  ∀ z20 : M3,
  (z20 = selM (uniE P) (wM (scaZ (detZ P) (adjZ P))) →
  ∀ z22 : Int,
  (z22 = uniE P →
  (((!(decide (z22 = 0))) = true →
   (true, ()) = (true, ())) ∧
  ((!(decide (z22 = 0))) = false →
  (True ∧
  ∀ z25 : M3,
  (z25 = selM (err2 (errM P) (errM M)) (wM (mulZ P M)) →
  ∀ z27 : Int,
  (z27 = err2 (errM P) (errM M) →
  (True ∧
  ∀ z29 : M3,
  (z29 = selM (err2 (errM z25) (errM z20)) (wM (mulZ z25 z20)) →
  ∀ z31 : Int,
  (z31 = err2 (errM z25) (errM z20) →
  (((!(decide (z31 = 0))) = true →
   (true, ()) = (true, ())) ∧
  ((!(decide (z31 = 0))) = false →
  (True ∧
  ∀ z34 : Int,
  (z34 = errM z29 →
  (((!(decide (z34 = 0))) = true →
   (true, ()) = (true, ())) ∧
  ((!(decide (z34 = 0))) = false →
  (True ∧
  ∀ z37 : Int,
  (z37 = ordZ z29 →
  ∀ z39 : Int,
  (z39 = ordE z29 →
  (((decide (z37 = n)) = true →
   ((decide (z39 = e)), ()) = (true, ())) ∧
  ((decide (z37 = n)) = false →
  (false, ()) = (true, ())))))))))))))))))))))))
theorem vp_tail {M P : M3} (hM : Bnd 3 M) (hP : Bnd 3 P) (hu : uniE M = 0) : VpTail M P (ordZ M) (ordE M) := by
  refine ⟨trivial, fun q hq u hu' => ⟨fun _ => rfl, fun hz => ⟨trivial, fun x hx y hy => ⟨trivial, fun t ht f hf => ⟨fun _ => rfl, fun hf0 => ⟨trivial, fun g hg => ⟨fun _ => rfl, fun hg0 => ⟨trivial, fun a ha b hb => ?_⟩⟩⟩⟩⟩⟩⟩⟩
  have hz : uniE P = 0 := by rw [← hu']; exact of_decide_eq_true (ye_not hz)
  have hdP := (uniE_ok hz).2.2
  have hdM := (uniE_ok hu).2.2
  have hqB : Bnd 18 (invZ P) := sca_B (adjZ_B hP) hdP
  have hq : q = invZ P := by
    rw [hq]; unfold selM; rw [if_pos hz]; exact wM_id (by decide) hqB
  have hx : x = mulZ P M := by
    rw [hx, errM_B (by decide) hP, errM_B (by decide) hM]
    show wM (mulZ P M) = _
    exact wM_id (by decide) (mulZ_B hP hM)
  have hxB : Bnd 27 (mulZ P M) := mulZ_B hP hM
  have ht : t = mulZ (mulZ P M) (invZ P) := by
    rw [ht, hq, hx, errM_B (by decide) hxB, errM_B (by decide) hqB]
    show wM (mulZ (mulZ P M) (invZ P)) = _
    exact wM_id (by decide) (mulZ_B hxB hqB)
  have hg0 : errM t = 0 := by rw [← hg]; exact of_decide_eq_true (ye_not hg0)
  obtain ⟨e1, e2, e3⟩ := conj_tsd (M := M) (inv_l hdP) (inv_r hdP)
  have hut : uniE t = 0 := uniE_of (okM_B (errM_ok.1 hg0)) (by rw [ht, e3]; exact hdM)
  have hr : rordX t = rordX M := by rw [ht]; exact conj_ord (inv_l hdP) (inv_r hdP)
  obtain ⟨v1, v2⟩ := ord_vals hut
  obtain ⟨v3, v4⟩ := ord_vals hu
  have ea : a = ordZ M := by rw [ha, v1, hr, v3]
  have eb : b = ordE M := by rw [hb, v2, hr, v4]
  refine ⟨fun _ => ?_, fun h => absurd ea (of_decide_eq_false h)⟩
  rw [eb]; simp
def VpEnd (M P : M3) (n e : Int) : Prop := (((!(decide (e = 0))) = true →
 (((!(decide (e = 9))) = true →
  (false, ()) = (true, ())) ∧
 ((!(decide (e = 9))) = false →
 (((decide (e = 0)) = true →
  (((decide (n < 1)) = true →
   (false, ()) = (true, ())) ∧
  ((decide (n < 1)) = false →
  (((decide (6 < n)) = true →
   (false, ()) = (true, ())) ∧
  ((decide (6 < n)) = false →
  (((decide (n = 5)) = true →
   (false, ()) = (true, ())) ∧
  ((decide (n = 5)) = false →
  (True ∧
  ∀ z20 : M3,
  (z20 = selM (uniE P) (wM (scaZ (detZ P) (adjZ P))) →
  ∀ z22 : Int,
  (z22 = uniE P →
  (((!(decide (z22 = 0))) = true →
   (true, ()) = (true, ())) ∧
  ((!(decide (z22 = 0))) = false →
  (True ∧
  ∀ z25 : M3,
  (z25 = selM (err2 (errM P) (errM M)) (wM (mulZ P M)) →
  ∀ z27 : Int,
  (z27 = err2 (errM P) (errM M) →
  (True ∧
  ∀ z29 : M3,
  (z29 = selM (err2 (errM z25) (errM z20)) (wM (mulZ z25 z20)) →
  ∀ z31 : Int,
  (z31 = err2 (errM z25) (errM z20) →
  (((!(decide (z31 = 0))) = true →
   (true, ()) = (true, ())) ∧
  ((!(decide (z31 = 0))) = false →
  (True ∧
  ∀ z34 : Int,
  (z34 = errM z29 →
  (((!(decide (z34 = 0))) = true →
   (true, ()) = (true, ())) ∧
  ((!(decide (z34 = 0))) = false →
  (True ∧
  ∀ z37 : Int,
  (z37 = ordZ z29 →
  ∀ z39 : Int,
  (z39 = ordE z29 →
  (((decide (z37 = n)) = true →
   ((decide (z39 = e)), ()) = (true, ())) ∧
  ((decide (z37 = n)) = false →
  (false, ()) = (true, ())))))))))))))))))))))))))))))) ∧
 ((decide (e = 0)) = false →
 (True ∧
 ∀ z17 : M3,
 (z17 = selM (uniE P) (wM (scaZ (detZ P) (adjZ P))) →
 ∀ z19 : Int,
 (z19 = uniE P →
 (((!(decide (z19 = 0))) = true →
  (true, ()) = (true, ())) ∧
 ((!(decide (z19 = 0))) = false →
 (True ∧
 ∀ z22 : M3,
 (z22 = selM (err2 (errM P) (errM M)) (wM (mulZ P M)) →
 ∀ z24 : Int,
 (z24 = err2 (errM P) (errM M) →
 (True ∧
 ∀ z26 : M3,
 (z26 = selM (err2 (errM z22) (errM z17)) (wM (mulZ z22 z17)) →
 ∀ z28 : Int,
 (z28 = err2 (errM z22) (errM z17) →
 (((!(decide (z28 = 0))) = true →
  (true, ()) = (true, ())) ∧
 ((!(decide (z28 = 0))) = false →
 (True ∧
 ∀ z31 : Int,
 (z31 = errM z26 →
 (((!(decide (z31 = 0))) = true →
  (true, ()) = (true, ())) ∧
 ((!(decide (z31 = 0))) = false →
 (True ∧
 ∀ z34 : Int,
 (z34 = ordZ z26 →
 ∀ z36 : Int,
 (z36 = ordE z26 →
 (((decide (z34 = n)) = true →
  ((decide (z36 = e)), ()) = (true, ())) ∧
 ((decide (z34 = n)) = false →
 (false, ()) = (true, ())))))))))))))))))))))))))))) ∧
((!(decide (e = 0))) = false →
(((decide (e = 0)) = true →
 (((decide (n < 1)) = true →
  (false, ()) = (true, ())) ∧
 ((decide (n < 1)) = false →
 (((decide (6 < n)) = true →
  (false, ()) = (true, ())) ∧
 ((decide (6 < n)) = false →
 (((decide (n = 5)) = true →
  (false, ()) = (true, ())) ∧
 ((decide (n = 5)) = false →
 (True ∧
 ∀ z19 : M3,
 (z19 = selM (uniE P) (wM (scaZ (detZ P) (adjZ P))) →
 ∀ z21 : Int,
 (z21 = uniE P →
 (((!(decide (z21 = 0))) = true →
  (true, ()) = (true, ())) ∧
 ((!(decide (z21 = 0))) = false →
 (True ∧
 ∀ z24 : M3,
 (z24 = selM (err2 (errM P) (errM M)) (wM (mulZ P M)) →
 ∀ z26 : Int,
 (z26 = err2 (errM P) (errM M) →
 (True ∧
 ∀ z28 : M3,
 (z28 = selM (err2 (errM z24) (errM z19)) (wM (mulZ z24 z19)) →
 ∀ z30 : Int,
 (z30 = err2 (errM z24) (errM z19) →
 (((!(decide (z30 = 0))) = true →
  (true, ()) = (true, ())) ∧
 ((!(decide (z30 = 0))) = false →
 (True ∧
 ∀ z33 : Int,
 (z33 = errM z28 →
 (((!(decide (z33 = 0))) = true →
  (true, ()) = (true, ())) ∧
 ((!(decide (z33 = 0))) = false →
 (True ∧
 ∀ z36 : Int,
 (z36 = ordZ z28 →
 ∀ z38 : Int,
 (z38 = ordE z28 →
 (((decide (z36 = n)) = true →
  ((decide (z38 = e)), ()) = (true, ())) ∧
 ((decide (z36 = n)) = false →
 (false, ()) = (true, ())))))))))))))))))))))))))))))) ∧
((decide (e = 0)) = false →
(True ∧
∀ z16 : M3,
(z16 = selM (uniE P) (wM (scaZ (detZ P) (adjZ P))) →
∀ z18 : Int,
(z18 = uniE P →
(((!(decide (z18 = 0))) = true →
 (true, ()) = (true, ())) ∧
((!(decide (z18 = 0))) = false →
(True ∧
∀ z21 : M3,
(z21 = selM (err2 (errM P) (errM M)) (wM (mulZ P M)) →
∀ z23 : Int,
(z23 = err2 (errM P) (errM M) →
(True ∧
∀ z25 : M3,
(z25 = selM (err2 (errM z21) (errM z16)) (wM (mulZ z21 z16)) →
∀ z27 : Int,
(z27 = err2 (errM z21) (errM z16) →
(((!(decide (z27 = 0))) = true →
 (true, ()) = (true, ())) ∧
((!(decide (z27 = 0))) = false →
(True ∧
∀ z30 : Int,
(z30 = errM z25 →
(((!(decide (z30 = 0))) = true →
 (true, ()) = (true, ())) ∧
((!(decide (z30 = 0))) = false →
(True ∧
∀ z33 : Int,
(z33 = ordZ z25 →
∀ z35 : Int,
(z35 = ordE z25 →
(((decide (z33 = n)) = true →
 ((decide (z35 = e)), ()) = (true, ())) ∧
((decide (z33 = n)) = false →
(false, ()) = (true, ())))))))))))))))))))))))))))
theorem vp_end {M P : M3} (hM : Bnd 3 M) (hP : Bnd 3 P) (hu : uniE M = 0) : VpEnd M P (ordZ M) (ordE M) := by
  have tail := vp_tail hM hP hu
  unfold VpTail at tail
  obtain ⟨v3, v4⟩ := ord_vals hu
  have he : ordE M = 0 ∨ ordE M = 9 := by rw [v4]; split; exact .inr rfl; exact .inl rfl
  have hn : ordE M = 0 → 1 ≤ ordZ M ∧ ordZ M ≤ 6 ∧ ordZ M ≠ 5 := fun h => by
    have hr : rordX M ≠ 0 := fun e => by rw [v4, if_pos e] at h; exact absurd h (by decide)
    obtain ⟨n, e1, e2, e3, e4, _⟩ := min_order hr
    rw [v3, e1]; omega
  have mid : (((decide (ordE M = 0)) = true → True)) := fun _ => trivial
  clear mid
  unfold VpEnd
  refine ⟨fun h9 => ⟨fun h => ?_, fun _ => ⟨fun h => ?_, fun _ => tail⟩⟩, fun h9 => ⟨fun h => ?_, fun _ => tail⟩⟩
  · have := of_decide_eq_false (no_not h9)
    have := of_decide_eq_false (no_not h)
    omega
  · exact absurd (of_decide_eq_true h) (of_decide_eq_false (no_not h9))
  · obtain ⟨n1, n2, n3⟩ := hn (of_decide_eq_true h)
    refine ⟨fun h => ?_, fun _ => ⟨fun h => ?_, fun _ => ⟨fun h => ?_, fun _ => tail⟩⟩⟩
    · have := of_decide_eq_true h; omega
    · have := of_decide_eq_true h; omega
    · exact absurd (of_decide_eq_true h) n3
def vpInv (m : M3) (_ _ k : Int) (a : M3) : Prop := 1 ≤ k ∧ k ≤ 13 ∧ a = powI m (k - 1).toNat

/-! ### Adjoints -/
theorem det_sca_adj {m : M3} (h : detZ m = 1 ∨ detZ m = -1) : detZ (invZ m) = detZ m := by
  have e1 : ∀ (n : Int) (a : M3), detZ (scaZ n a) = n * n * n * detZ a := fun n a => by simp only [detZ, scaZ]; grind
  have e2 : detZ (adjZ m) = detZ m * detZ m := by simp only [detZ, adjZ]; grind
  unfold invZ
  rw [e1, e2]
  rcases h with h | h <;> rw [h] <;> decide
end Go.Fx
