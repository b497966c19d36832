/-
  Maps: translations modulo 24, products, errors, in Lean.
-/
import Derived.Test.YthljaepanhdmiaaX
namespace Go.Fx
open Go

def emo (n m : Int) : Int := n % m
def modV (p : Int) (v : V3) : V3 := V3.mk (v.x % p) (v.y % p) (v.z % p)
def addV (a b : V3) : V3 := V3.mk (a.x + b.x) (a.y + b.y) (a.z + b.z)
def negV (a : V3) : V3 := V3.mk (-a.x) (-a.y) (-a.z)
def addT (a b : V3) : V3 := modV 24 (addV a b)
def negT (a : V3) : V3 := modV 24 (negV a)
def shiT (r : M3) (t : V3) : V3 := modV 24 (appZ r t)
def in24 (x : Int) : Bool := decide (0 ≤ x) && decide (x ≤ 23)
def inT (t : V3) : Bool := in24 t.x && in24 t.y && in24 t.z
def errO (o : Op3) : Int := if inT o.T = true then uniE o.R else 3
def errL (l : List Op3) : Int := if (l.any fun o => decide (errO o = 3)) = true then 3 else if (l.any fun o => decide (errO o = 4)) = true then 4 else 0
def nilE (o : Op3) : Bool := decide (errL [o] = 0)
def oneO : Op3 := Op3.mk (oneZ 1) (V3.mk 0 0 0)
def zerO : Op3 := Op3.mk (M3.mk 0 0 0 0 0 0 0 0 0) (V3.mk 0 0 0)
def selO (e : Int) (o : Op3) : Op3 := if e = 0 then o else zerO
def mulO (a b : Op3) : Op3 := Op3.mk (mulZ a.R b.R) (modV 24 (addV (appZ a.R b.T) a.T))
def mulE (a b : Op3) : Int := if errL [a, b] = 0 then errM (mulZ a.R b.R) else errL [a, b]
def invO (o : Op3) : Op3 := Op3.mk (invZ o.R) (modV 24 (negV (appZ (invZ o.R) o.T)))
def invE (o : Op3) : Int := if errO o = 0 then errM (invZ o.R) else errO o
/-- What the code's 'mod' gives. -/
def r24 (x : Int) : Int := (Int.tmod x 24 + 24) % 24
theorem r24_eq (x : Int) : r24 x = x % 24 := by
  have := resP_mod 24 x
  unfold resP at this
  unfold r24
  rwa [Int.emod_emod_of_dvd _ (Int.dvd_refl 24)] at this
theorem tmod_emod (x p : Int) : Int.tmod x p % p = x % p := by
  have h1 : Int.tmod x p = x - p * Int.tdiv x p := by have := Int.tmod_add_mul_tdiv x p; omega
  rw [h1, show x - p * Int.tdiv x p = x + p * (-Int.tdiv x p) by rw [Int.mul_neg]; omega, Int.add_mul_emod_self_left]
theorem w64_mod24 (x : Int) : w64 x % 8 = x % 8 := by
  obtain ⟨k, h⟩ := w64_dvd x
  rw [h]; omega
theorem add24 (a b : Int) : r24 (Int.tmod a 24 + Int.tmod b 24) = (a + b) % 24 := by
  rw [r24_eq, Int.add_emod, tmod_emod, tmod_emod, ← Int.add_emod]
theorem add24' (a b : Int) : (Int.tmod a 24 + Int.tmod b 24) % 24 = (a + b) % 24 := by
  rw [Int.add_emod, tmod_emod, tmod_emod, ← Int.add_emod]
theorem neg24' (a : Int) : (0 - Int.tmod a 24) % 24 = (-a) % 24 := by
  have := tmod_emod a 24
  omega
theorem mul24' (a b : Int) : (Int.tmod a 24 * Int.tmod b 24) % 24 = (a * b) % 24 := by
  rw [Int.mul_emod, tmod_emod, tmod_emod, ← Int.mul_emod]
theorem neg24 (a : Int) : r24 (0 - Int.tmod a 24) = (-a) % 24 := by
  rw [r24_eq]
  have := tmod_emod a 24
  omega
theorem errM_34 (m : M3) : uniE m = 0 ∨ uniE m = 3 ∨ uniE m = 4 := by
  unfold uniE
  rcases errM_cases m with h | h
  · rw [if_pos h]; split
    · exact .inl rfl
    · exact .inr (.inl rfl)
  · rw [if_neg (by rw [h]; decide), h]; exact .inr (.inr rfl)
theorem errO_034 (o : Op3) : errO o = 0 ∨ errO o = 3 ∨ errO o = 4 := by
  unfold errO; split
  · exact errM_34 _
  · exact .inr (.inl rfl)
theorem errL_one (o : Op3) : errL [o] = errO o := by
  unfold errL
  rcases errO_034 o with h | h | h <;> simp [h]
theorem errL_two (a b : Op3) : errL [a, b] = if errO a = 3 ∨ errO b = 3 then 3 else if errO a = 4 ∨ errO b = 4 then 4 else 0 := by
  unfold errL
  simp
theorem errL_nil : errL [] = 0 := rfl
theorem errL_zero {l : List Op3} : errL l = 0 ↔ ∀ o ∈ l, errO o = 0 := by
  unfold errL
  constructor
  · intro h o ho
    rcases errO_034 o with e | e | e
    · exact e
    · rw [if_pos (List.any_eq_true.2 ⟨o, ho, by rw [e]; rfl⟩)] at h; exact absurd h (by decide)
    · split at h
      · exact absurd h (by decide)
      · rw [if_pos (List.any_eq_true.2 ⟨o, ho, by rw [e]; rfl⟩)] at h; exact absurd h (by decide)
  · intro h
    rw [if_neg, if_neg]
    · intro h'; obtain ⟨o, ho, e⟩ := List.any_eq_true.1 h'; rw [h o ho] at e; exact absurd e (by decide)
    · intro h'; obtain ⟨o, ho, e⟩ := List.any_eq_true.1 h'; rw [h o ho] at e; exact absurd e (by decide)
/-- A map in form. -/
structure Frm (o : Op3) : Prop where
  T : inT o.T = true
  B : Bnd 1000 o.R
  d : detZ o.R = 1 ∨ detZ o.R = -1
theorem errO_ok {o : Op3} : errO o = 0 ↔ Frm o := by
  unfold errO
  constructor
  · intro h
    split at h
    · rename_i ht
      obtain ⟨h1, _, h2⟩ := uniE_ok h
      exact ⟨ht, h1, h2⟩
    · exact absurd h (by decide)
  · rintro ⟨h1, h2, h3⟩
    rw [if_pos h1, uniE_of h2 h3]
theorem in24_iff {x : Int} : in24 x = true ↔ 0 ≤ x ∧ x ≤ 23 := by simp [in24]
theorem inT_iff {t : V3} : inT t = true ↔ (0 ≤ t.x ∧ t.x ≤ 23) ∧ (0 ≤ t.y ∧ t.y ≤ 23) ∧ (0 ≤ t.z ∧ t.z ≤ 23) := by
  simp only [inT, Bool.and_eq_true, in24_iff, and_assoc]
theorem inT_mod (v : V3) : inT (modV 24 v) = true := by
  rw [inT_iff]
  have h : ∀ x : Int, 0 ≤ x % 24 ∧ x % 24 ≤ 23 := fun x => by omega
  exact ⟨h _, h _, h _⟩
theorem modV_id {t : V3} (h : inT t = true) : modV 24 t = t := by
  rw [inT_iff] at h
  obtain ⟨⟨a, b⟩, ⟨c, d⟩, e, f⟩ := h
  cases t
  simp only [modV, V3.mk.injEq]
  simp only at a b c d e f
  omega
theorem V3.ext' {a b : V3} (h1 : a.x = b.x) (h2 : a.y = b.y) (h3 : a.z = b.z) : a = b := by
  cases a; cases b; simp only at h1 h2 h3; rw [h1, h2, h3]
end Go.Fx
