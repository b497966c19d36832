/-
  Orders and kinds of maps.
-/
import Derived.Test.YthljaepanhdmiaaY
namespace Go.Fx
open Go

theorem powI_left (m : M3) (k : Nat) : mulZ m (powI m k) = powI m (k + 1) := by
  have := powI_add m 1 k
  rw [powI_one, Nat.add_comm] at this
  exact this.symm
def opw (o : Op3) : Nat → Op3
  | 0 => oneO
  | k + 1 => mulO o (opw o k)
theorem opw_R (o : Op3) : ∀ k, (opw o k).R = powI o.R k
  | 0 => rfl
  | k + 1 => by show mulZ o.R (opw o k).R = _; rw [opw_R o k, powI_left]
theorem opw_T (o : Op3) : ∀ k, (opw o k).T = sumT o k
  | 0 => rfl
  | k + 1 => by
    show modV 24 (addV (appZ o.R (opw o k).T) o.T) = modV 24 (addV (modV 24 (appZ o.R (sumT o k))) o.T)
    rw [opw_T o k]
    exact (eqV_add (eqV_mod 24 _) (eqV.refl _ _)).symm
theorem sumT_in (o : Op3) : ∀ k, inT (sumT o k) = true
  | 0 => (by decide : inT (V3.mk 0 0 0) = true)
  | _ + 1 => inT_mod _
theorem opw_in (o : Op3) (k : Nat) : inT (opw o k).T = true := by rw [opw_T]; exact sumT_in o k
theorem opw_add (o : Op3) : ∀ a b, opw o (a + b) = mulO (opw o a) (opw o b)
  | 0, b => by rw [Nat.zero_add]; exact (mulO_one (opw_in o b)).2.symm
  | a + 1, b => by
    rw [show a + 1 + b = a + b + 1 by omega, opw, opw_add o a b, ← mulO_assoc]; rfl
theorem opw_one_iff (o : Op3) (k : Nat) : opw o k = oneO ↔ powI o.R k = oneZ 1 ∧ sumT o k = V3.mk 0 0 0 := by
  constructor
  · intro h
    exact ⟨by rw [← opw_R, h]; rfl, by rw [← opw_T, h]; rfl⟩
  · rintro ⟨h1, h2⟩
    exact Op3.ext' (by rw [opw_R, h1]; rfl) (by rw [opw_T, h2]; rfl)
theorem zerV_iff {v : V3} : zerV v = true ↔ v = V3.mk 0 0 0 := by
  cases v; simp [zerV]
theorem timT_sca (n : Int) (t : V3) : timT n t = modV 24 (scaV n t) := rfl
/-- Behind r times over, where the matrix is the identity, translations add up. -/
theorem opw_mul {o : Op3} {r : Nat} (h : powI o.R r = oneZ 1) : ∀ n : Nat, opw o (r * n) = Op3.mk (oneZ 1) (timT n (sumT o r))
  | 0 => by
    refine Op3.ext' rfl ?_
    show V3.mk 0 0 0 = timT 0 (sumT o r)
    simp [timT]
  | n + 1 => by
    rw [Nat.mul_succ, opw_add, opw_mul h n]
    have e : opw o r = Op3.mk (oneZ 1) (sumT o r) := Op3.ext' (by rw [opw_R, h]) (opw_T o r)
    rw [e]
    refine Op3.ext' (mulZ_one _).1 ?_
    show eqV 24 (addV (appZ (oneZ 1) (sumT o r)) (timT n (sumT o r))) (scaV ((n + 1 : Nat) : Int) (sumT o r))
    rw [app_one]
    refine (eqV_add (eqV.refl _ _) (eqV_mod 24 (scaV n (sumT o r)))).trans ?_
    have : addV (sumT o r) (scaV n (sumT o r)) = scaV ((n + 1 : Nat) : Int) (sumT o r) := by
      simp only [addV, scaV, V3.mk.injEq, Int.natCast_add, Int.add_mul]; omega
    rw [this]; exact eqV.refl _ _
theorem lstT_least (t : V3) : ∀ (f : Nat) (n : Int), (∃ j : Int, n ≤ j ∧ j < n + f ∧ zerV (timT j t) = true) → n ≤ lstT t f n ∧ lstT t f n < n + f ∧ zerV (timT (lstT t f n) t) = true ∧ ∀ j, n ≤ j → j < lstT t f n → zerV (timT j t) = false
  | 0, n, ⟨j, h1, h2, _⟩ => by omega
  | f + 1, n, ⟨j, h1, h2, h3⟩ => by
    unfold lstT
    split
    · rename_i h
      exact ⟨Int.le_refl _, by omega, h, fun j a b => by omega⟩
    · rename_i h
      have hne : j ≠ n := fun e => h (e ▸ h3)
      obtain ⟨q1, q2, q3, q4⟩ := lstT_least t f (n + 1) ⟨j, by omega, by omega, h3⟩
      refine ⟨by omega, by omega, q3, fun j a b => ?_⟩
      by_cases e : j = n
      · subst e; exact Bool.eq_false_iff.2 h
      · exact q4 j (by omega) b
theorem tim24 (t : V3) : zerV (timT 24 t) = true := by
  rw [zerV_iff]; simp [timT]
theorem lst_ok (t : V3) : 1 ≤ lstT t 24 1 ∧ lstT t 24 1 ≤ 24 ∧ zerV (timT (lstT t 24 1) t) = true ∧ ∀ j, 1 ≤ j → j < lstT t 24 1 → zerV (timT j t) = false := by
  obtain ⟨a, b, c, d⟩ := lstT_least t 24 1 ⟨24, by decide, by decide, tim24 t⟩
  exact ⟨a, by omega, c, d⟩
/-- The least power that moves nothing. -/
def isOrd (o : Op3) (n : Nat) : Prop := 1 ≤ n ∧ opw o n = oneO ∧ ∀ j, 1 ≤ j → j < n → opw o j ≠ oneO
theorem isOrd_unique {o : Op3} {n k : Nat} (h : isOrd o n) (h' : isOrd o k) : n = k := by
  obtain ⟨h1, h2, h3⟩ := h
  obtain ⟨h4, h5, h6⟩ := h'
  rcases Nat.lt_trichotomy n k with h | h | h
  · exact absurd h2 (h6 n h1 h)
  · exact h
  · exact absurd h5 (h3 k h4 h)
theorem oroE_frm {o : Op3} (h : Frm o) : oroE o = ordE o.R := by unfold oroE; rw [if_pos h.err]
theorem ord_isOrd {o : Op3} (h : Frm o) (he : ordE o.R = 0) : ∃ N : Nat, oroZ o = N ∧ N ≤ 144 ∧ isOrd o N := by
  have hu : uniE o.R = 0 := uniE_of h.B h.d
  obtain ⟨v1, v2⟩ := ord_vals hu
  have hr : rordX o.R ≠ 0 := fun e => by rw [v2, if_pos e] at he; exact absurd he (by decide)
  obtain ⟨r, r1, r2, r3, _, r5, r6⟩ := min_order hr
  obtain ⟨l1, l2, l3, l4⟩ := lst_ok (sumT o r)
  have hz : ordZ o.R = (r : Int) := by rw [v1, r1]
  have hm : r * (lstT (sumT o r) 24 1).toNat ≤ 6 * 24 := Nat.mul_le_mul r3 (by omega)
  refine ⟨r * (lstT (sumT o r) 24 1).toNat, ?_, hm, ?_, ?_, fun j j1 j2 hj => ?_⟩
  · unfold oroZ
    rw [oroE_frm h, if_pos he, hz, Int.toNat_natCast, Int.natCast_mul]
    congr 1; omega
  · exact Nat.mul_pos r2 (by omega)
  · rw [opw_mul r5, show (((lstT (sumT o r) 24 1).toNat : Nat) : Int) = lstT (sumT o r) 24 1 by omega, zerV_iff.1 l3]; rfl
  · obtain ⟨h1, _⟩ := (opw_one_iff o j).1 hj
    have hd := (pow_iff r2 r5 r6 j).1 h1
    have e : r * (j / r) = j := by have := Nat.div_add_mod j r; omega
    generalize j / r = q at e
    subst e
    have hq : q < (lstT (sumT o r) 24 1).toNat := Nat.lt_of_mul_lt_mul_left j2
    have hq1 : 1 ≤ q := by
      by_cases e0 : q = 0
      · subst e0; omega
      · omega
    rw [opw_mul r5] at hj
    have := congrArg Op3.T hj
    have hf := l4 (q : Int) (by omega) (by omega)
    have ht : zerV (timT (q : Int) (sumT o r)) = true := zerV_iff.2 this
    rw [ht] at hf; exact absurd hf (by decide)
/-! ### Told from elsewhere, undone -/
theorem conj_opw {m o q : Op3} (hm : inT m.T = true) (h1 : mulO m q = oneO) (h2 : mulO q m = oneO) : ∀ k, opw (mulO (mulO m o) q) k = mulO (mulO m (opw o k)) q
  | 0 => by show oneO = mulO (mulO m oneO) q; rw [(mulO_one hm).1, h1]
  | k + 1 => by
    show mulO (mulO (mulO m o) q) (opw (mulO (mulO m o) q) k) = mulO (mulO m (mulO o (opw o k))) q
    rw [conj_opw hm h1 h2 k, mulO_assoc (mulO m o) q, mulO_assoc m (opw o k) q, ← mulO_assoc q m, h2, (mulO_one (inT_mod _)).2, mulO_assoc m o, ← mulO_assoc o, ← mulO_assoc m]
theorem conj_one_op {m q : Op3} (X : Op3) (hX : inT X.T = true) (hm : inT m.T = true) (hq : inT q.T = true) (h1 : mulO m q = oneO) (h2 : mulO q m = oneO) : mulO (mulO m X) q = oneO ↔ X = oneO := by
  constructor
  · intro h
    have : mulO (mulO q (mulO (mulO m X) q)) m = X := by
      rw [← mulO_assoc, ← mulO_assoc, h2, (mulO_one hX).2, mulO_assoc, h2, (mulO_one hX).1]
    rw [← this, h, (mulO_one hq).1, h2]
  · rintro rfl
    rw [(mulO_one hm).1, h1]
theorem isOrd_conj {m o q : Op3} {n : Nat} (hm : inT m.T = true) (hq : inT q.T = true) (h1 : mulO m q = oneO) (h2 : mulO q m = oneO) (h : isOrd o n) : isOrd (mulO (mulO m o) q) n := by
  obtain ⟨a, b, c⟩ := h
  refine ⟨a, ?_, fun j j1 j2 hj => ?_⟩
  · rw [conj_opw hm h1 h2]; exact (conj_one_op _ (opw_in o n) hm hq h1 h2).2 b
  · rw [conj_opw hm h1 h2] at hj; exact c j j1 j2 ((conj_one_op _ (opw_in o j) hm hq h1 h2).1 hj)
theorem opw_undo {o q : Op3} (h1 : mulO o q = oneO) : ∀ k, mulO (opw o k) (opw q k) = oneO
  | 0 => (mulO_one (by decide : inT (V3.mk 0 0 0) = true)).1
  | k + 1 => by
    have e : opw q (k + 1) = mulO (opw q k) q := by
      rw [opw_add q k 1]
      show mulO (opw q k) (mulO q oneO) = _
      by_cases hq : inT q.T = true
      · rw [(mulO_one hq).1]
      · rw [← mulO_assoc]
        have : ∀ X : Op3, mulO (mulO X q) oneO = mulO X q := fun X => (mulO_one (inT_mod _)).1
        exact this _
    show mulO (mulO o (opw o k)) (opw q (k + 1)) = oneO
    rw [e, mulO_assoc, ← mulO_assoc (opw o k), opw_undo h1 k, ← mulO_assoc, mulO_assoc o oneO]
    have : ∀ X : Op3, mulO o (mulO oneO X) = mulO o X := fun X => by
      refine Op3.ext' (by show mulZ o.R (mulZ (oneZ 1) X.R) = _; rw [(mulZ_one _).1]; rfl) ?_
      show eqV 24 (addV (appZ o.R (modV 24 (addV (appZ (oneZ 1) X.T) (V3.mk 0 0 0)))) o.T) (addV (appZ o.R X.T) o.T)
      rw [app_one, addV_zero]
      exact eqV_add (eqV_app _ (eqV_mod _ _)) (eqV.refl _ _)
    rw [this, h1]
theorem isOrd_inv {o q : Op3} {n : Nat} (h1 : mulO o q = oneO) (h2 : mulO q o = oneO) (h : isOrd o n) : isOrd q n := by
  obtain ⟨a, b, c⟩ := h
  refine ⟨a, ?_, fun j j1 j2 hj => c j j1 j2 ?_⟩
  · have := opw_undo h1 n
    rw [b, (mulO_one (opw_in q n)).2] at this; exact this
  · have := opw_undo h2 j
    rw [hj, (mulO_one (opw_in o j)).2] at this; exact this
end Go.Fx
