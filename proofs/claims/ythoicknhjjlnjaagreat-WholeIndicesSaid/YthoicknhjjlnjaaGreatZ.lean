/-
  Plain facts on operations.
-/
import Derived.Test.YthoicknhjjlnjaaGreatX
set_option linter.unusedSimpArgs false
set_option linter.unusedVariables false
set_option linter.unusedSectionVars false
section
namespace Go.Fx
open Go

def emo (n m : Int) : Int := n % m
def modV (p : Int) (v : V3) : V3 := V3.mk (v.x % p) (v.y % p) (v.z % p)
def addV (a b : V3) : V3 := V3.mk (a.x + b.x) (a.y + b.y) (a.z + b.z)
def negV (a : V3) : V3 := V3.mk (-a.x) (-a.y) (-a.z)
def addT (a b : V3) : V3 := modV 24 (addV a b)
def negT (a : V3) : V3 := modV 24 (negV a)
def shiT (r : M3) (t : V3) : V3 := modV 24 (appZ r t)
def in24 (x : Int) : Bool := decide (0 ≤ x) && decide (x ≤ 23)
def inT (t : V3) : Bool := in24 t.x && in24 t.y && in24 t.z
def errO (o : Op3) : Int := if inT o.T = true then uniE o.R else 3
def errL (l : List Op3) : Int := if (l.any fun o => decide (errO o = 3)) = true then 3 else if (l.any fun o => decide (errO o = 4)) = true then 4 else 0
def nilE (o : Op3) : Bool := decide (errL [o] = 0)
def oneO : Op3 := Op3.mk (oneZ 1) (V3.mk 0 0 0)
def zerO : Op3 := Op3.mk (M3.mk 0 0 0 0 0 0 0 0 0) (V3.mk 0 0 0)
def selO (e : Int) (o : Op3) : Op3 := if e = 0 then o else zerO
def mulO (a b : Op3) : Op3 := Op3.mk (mulZ a.R b.R) (modV 24 (addV (appZ a.R b.T) a.T))
def mulE (a b : Op3) : Int := if errL [a, b] = 0 then errM (mulZ a.R b.R) else errL [a, b]
def invO (o : Op3) : Op3 := Op3.mk (invZ o.R) (modV 24 (negV (appZ (invZ o.R) o.T)))
def invE (o : Op3) : Int := if errO o = 0 then errM (invZ o.R) else errO o
/-- What the code's 'mod' gives. -/
def r24 (x : Int) : Int := (Int.tmod x 24 + 24) % 24
theorem r24_eq (x : Int) : r24 x = x % 24 := by
  have := resP_mod 24 x
  unfold resP at this
  unfold r24
  rwa [Int.emod_emod_of_dvd _ (Int.dvd_refl 24)] at this
theorem tmod_emod (x p : Int) : Int.tmod x p % p = x % p := by
  have h1 : Int.tmod x p = x - p * Int.tdiv x p := by have := Int.tmod_add_mul_tdiv x p; omega
  rw [h1, show x - p * Int.tdiv x p = x + p * (-Int.tdiv x p) by rw [Int.mul_neg]; omega, Int.add_mul_emod_self_left]
theorem w64_mod24 (x : Int) : w64 x % 8 = x % 8 := by
  obtain ⟨k, h⟩ := w64_dvd x
  rw [h]; omega
theorem add24 (a b : Int) : r24 (Int.tmod a 24 + Int.tmod b 24) = (a + b) % 24 := by
  rw [r24_eq, Int.add_emod, tmod_emod, tmod_emod, ← Int.add_emod]
theorem add24' (a b : Int) : (Int.tmod a 24 + Int.tmod b 24) % 24 = (a + b) % 24 := by
  rw [Int.add_emod, tmod_emod, tmod_emod, ← Int.add_emod]
theorem neg24' (a : Int) : (0 - Int.tmod a 24) % 24 = (-a) % 24 := by
  have := tmod_emod a 24
  omega
theorem mul24' (a b : Int) : (Int.tmod a 24 * Int.tmod b 24) % 24 = (a * b) % 24 := by
  rw [Int.mul_emod, tmod_emod, tmod_emod, ← Int.mul_emod]
theorem neg24 (a : Int) : r24 (0 - Int.tmod a 24) = (-a) % 24 := by
  rw [r24_eq]
  have := tmod_emod a 24
  omega
theorem errM_34 (m : M3) : uniE m = 0 ∨ uniE m = 3 ∨ uniE m = 4 := by
  unfold uniE
  rcases errM_cases m with h | h
  · rw [if_pos h]; split
    · exact .inl rfl
    · exact .inr (.inl rfl)
  · rw [if_neg (by rw [h]; decide), h]; exact .inr (.inr rfl)
theorem errO_034 (o : Op3) : errO o = 0 ∨ errO o = 3 ∨ errO o = 4 := by
  unfold errO; split
  · exact errM_34 _
  · exact .inr (.inl rfl)
theorem errL_one (o : Op3) : errL [o] = errO o := by
  unfold errL
  rcases errO_034 o with h | h | h <;> simp [h]
theorem errL_two (a b : Op3) : errL [a, b] = if errO a = 3 ∨ errO b = 3 then 3 else if errO a = 4 ∨ errO b = 4 then 4 else 0 := by
  unfold errL
  simp
theorem errL_nil : errL [] = 0 := rfl
theorem errL_zero {l : List Op3} : errL l = 0 ↔ ∀ o ∈ l, errO o = 0 := by
  unfold errL
  constructor
  · intro h o ho
    rcases errO_034 o with e | e | e
    · exact e
    · rw [if_pos (List.any_eq_true.2 ⟨o, ho, by rw [e]; rfl⟩)] at h; exact absurd h (by decide)
    · split at h
      · exact absurd h (by decide)
      · rw [if_pos (List.any_eq_true.2 ⟨o, ho, by rw [e]; rfl⟩)] at h; exact absurd h (by decide)
  · intro h
    rw [if_neg, if_neg]
    · intro h'; obtain ⟨o, ho, e⟩ := List.any_eq_true.1 h'; rw [h o ho] at e; exact absurd e (by decide)
    · intro h'; obtain ⟨o, ho, e⟩ := List.any_eq_true.1 h'; rw [h o ho] at e; exact absurd e (by decide)
/-- A map in form. -/
structure Frm (o : Op3) : Prop where
  T : inT o.T = true
  B : Bnd 1000 o.R
  d : detZ o.R = 1 ∨ detZ o.R = -1
theorem errO_ok {o : Op3} : errO o = 0 ↔ Frm o := by
  unfold errO
  constructor
  · intro h
    split at h
    · rename_i ht
      obtain ⟨h1, _, h2⟩ := uniE_ok h
      exact ⟨ht, h1, h2⟩
    · exact absurd h (by decide)
  · rintro ⟨h1, h2, h3⟩
    rw [if_pos h1, uniE_of h2 h3]
theorem in24_iff {x : Int} : in24 x = true ↔ 0 ≤ x ∧ x ≤ 23 := by simp [in24]
theorem inT_iff {t : V3} : inT t = true ↔ (0 ≤ t.x ∧ t.x ≤ 23) ∧ (0 ≤ t.y ∧ t.y ≤ 23) ∧ (0 ≤ t.z ∧ t.z ≤ 23) := by
  simp only [inT, Bool.and_eq_true, in24_iff, and_assoc]
theorem inT_mod (v : V3) : inT (modV 24 v) = true := by
  rw [inT_iff]
  have h : ∀ x : Int, 0 ≤ x % 24 ∧ x % 24 ≤ 23 := fun x => by omega
  exact ⟨h _, h _, h _⟩
theorem modV_id {t : V3} (h : inT t = true) : modV 24 t = t := by
  rw [inT_iff] at h
  obtain ⟨⟨a, b⟩, ⟨c, d⟩, e, f⟩ := h
  cases t
  simp only [modV, V3.mk.injEq]
  simp only at a b c d e f
  omega
theorem V3.ext' {a b : V3} (h1 : a.x = b.x) (h2 : a.y = b.y) (h3 : a.z = b.z) : a = b := by
  cases a; cases b; simp only at h1 h2 h3; rw [h1, h2, h3]
end Go.Fx
end
section
namespace Go.Fx
open Go

def inM (m : Int) : Prop := 1 ≤ m ∧ m ≤ 1000000
theorem fmod_eq {n m : Int} (hm : inM m) : w64 (Int.tmod n m + m) = Int.tmod n m + m ∧ Int.tmod (Int.tmod n m + m) m = n % m ∧ m ≠ 0 := by
  obtain ⟨h1, h2⟩ := hm
  have hr : (n.tmod m).natAbs < m.natAbs := by rw [Int.natAbs_tmod]; exact Nat.mod_lt _ (by omega)
  refine ⟨w64_id (by omega) (by omega), ?_, by omega⟩
  rw [Int.tmod_eq_emod_of_nonneg (by omega)]
  have := resP_mod m n
  unfold resP at this
  rwa [Int.emod_emod_of_dvd _ (Int.dvd_refl m)] at this
def timT (n : Int) (a : V3) : V3 := V3.mk (n * a.x % 24) (n * a.y % 24) (n * a.z % 24)
def rgtM (m : Int) : Bool := decide (m = 24) || (decide (m = 48) || (decide (m = 96) || decide (m = 192)))
def inX (m x : Int) : Bool := decide (0 ≤ x) && decide (x < m)
def frmP (p : Pt) : Bool := rgtM p.M && (inX p.M p.X.x && (inX p.M p.X.y && inX p.M p.X.z))
def zerP : Pt := Pt.mk 0 (V3.mk 0 0 0)
def selP (e : Int) (p : Pt) : Pt := if e = 0 then p else zerP
def plaE (m : Int) : Int := if rgtM m = true then 0 else 1
def plaP (m : Int) (v : V3) : Pt := if rgtM m = true then Pt.mk m (modV m v) else zerP
def scaV (n : Int) (v : V3) : V3 := V3.mk (n * v.x) (n * v.y) (n * v.z)
def shfX (p : Pt) (t : V3) : Pt := Pt.mk p.M (modV p.M (addV p.X (scaV (p.M / 24) t)))
def shfE (p : Pt) : Int := if frmP p = true then 0 else 3
def shfP (p : Pt) (t : V3) : Pt := if frmP p = true then shfX p t else zerP
theorem rgt_iff {m : Int} : rgtM m = true ↔ m = 24 ∨ m = 48 ∨ m = 96 ∨ m = 192 := by simp [rgtM]
theorem rgt_in {m : Int} (h : rgtM m = true) : inM m := by
  rcases rgt_iff.1 h with rfl | rfl | rfl | rfl <;> exact ⟨by decide, by decide⟩
theorem frmP_iff {p : Pt} : frmP p = true ↔ (p.M = 24 ∨ p.M = 48 ∨ p.M = 96 ∨ p.M = 192) ∧ (0 ≤ p.X.x ∧ p.X.x < p.M) ∧ (0 ≤ p.X.y ∧ p.X.y < p.M) ∧ (0 ≤ p.X.z ∧ p.X.z < p.M) := by
  simp only [frmP, Bool.and_eq_true, rgt_iff, inX, decide_eq_true_eq]
/-- Where a map sends a place. -/
def appX (o : Op3) (p : Pt) : Pt := Pt.mk p.M (modV p.M (addV (appZ o.R p.X) (scaV (p.M / 24) o.T)))
def appE (o : Op3) (p : Pt) : Int := if frmP p = true then errO o else 3
def appP (o : Op3) (p : Pt) : Pt := if appE o p = 0 then appX o p else zerP
def cmpV (a b : V3) : Int := cmpE a.x b.x (cmpE a.y b.y (cmpE a.z b.z 0))
def cmpO (a b : Op3) : Int := if cmpM a.R b.R = 0 then cmpV a.T b.T else cmpM a.R b.R
/-! ### Powers -/
def goL (o : Op3) : Nat → Op3 × Int → Op3 × Int
  | 0, s => s
  | k + 1, s => if s.2 = 0 then goL o k (selO (errM (mulO o s.1).R) (mulO o s.1), errM (mulO o s.1).R) else s
def powB (o : Op3) (n : Int) : Op3 := if errO o = 0 ∧ n < 0 then selO (invE o) (invO o) else o
def powF (o : Op3) (n : Int) : Int := if errO o = 0 then (if n < 0 then invE o else 0) else errO o
def powS (o : Op3) (n : Int) : Op3 × Int := goL (powB o n) n.natAbs (oneO, powF o n)
def powA (o : Op3) (n : Int) : Op3 × Int := if n < -1000 ∨ n > 1000 then (zerO, 1) else (selO (powS o n).2 (powS o n).1, (powS o n).2)
def powO (o : Op3) (n : Int) : Op3 := (powA o n).1
def powE (o : Op3) (n : Int) : Int := (powA o n).2
theorem goL_err {o p : Op3} {e : Int} (h : e ≠ 0) : ∀ k, goL o k (p, e) = (p, e)
  | 0 => rfl
  | k + 1 => by unfold goL; rw [if_neg h]
/-- A map's parts are small enough. -/
def sml (o : Op3) : Prop := errM o.R = 0 ∧ inT o.T = true
def pwInv (o : Op3) (n : Int) (w : Op3) (k e : Int) (p : Op3) : Prop :=
  w = powB o n ∧ (e = 0 → 0 ≤ k ∧ k ≤ 1000 ∧ sml w ∧ sml p) ∧ goL w k.toNat (p, e) = powS o n
def dpInv (o : Op3) (n : Int) (w : Op3) (k : Int) (p : Op3) : Prop :=
  w = powB o n ∧ 0 ≤ k ∧ k ≤ 1000 ∧ sml w ∧ sml p ∧ goL w k.toNat (p, 0) = powS o n
def pwMu (k : Int) : Int := k
/-! ### Orders -/
def sumT (o : Op3) : Nat → V3
  | 0 => V3.mk 0 0 0
  | k + 1 => addT (shiT o.R (sumT o k)) o.T
def zerV (v : V3) : Bool := decide (v.x = 0) && (decide (v.y = 0) && (decide (v.z = 0) && true))
/-- The least n from n on, at most f more, of which n t is nothing. -/
def lstT (t : V3) : Nat → Int → Int
  | 0, n => n
  | f + 1, n => if zerV (timT n t) = true then n else lstT t f (n + 1)
def oroE (o : Op3) : Int := if errO o = 0 then ordE o.R else errO o
def oroZ (o : Op3) : Int := if oroE o = 0 then ordZ o.R * lstT (sumT o (ordZ o.R).toNat) 24 1 else 0
def kinE (o : Op3) : Int := if errO o = 0 then ordE (scaZ (detZ o.R) o.R) else errO o
def kinZ (o : Op3) : Int := if kinE o = 0 then detZ o.R * ordZ (scaZ (detZ o.R) o.R) else 0
def soInv (o : Op3) (n k : Int) (t : V3) : Prop := 0 ≤ k ∧ (k ≤ n ∨ k = 0) ∧ t = sumT o k.toNat
def lsInv (t : V3) (n : Int) : Prop := 1 ≤ n ∧ n ≤ 24 ∧ lstT t 24 1 = lstT t (25 - n).toNat n
def atT (o : Op3) : Nat → V3
  | 0 => o.T
  | k + 1 => modV 24 (appZ o.R (atT o k))
def doInv (o : Op3) (n k : Int) (s t : V3) : Prop := 0 ≤ k ∧ (k ≤ n ∨ k = 0) ∧ s = sumT o k.toNat ∧ t = atT o k.toNat
end Go.Fx
end
section
namespace Go.Fx
open Go

theorem det_mul (a b : M3) : detZ (mulZ a b) = detZ a * detZ b := by
  simp only [detZ, mulZ]; grind
theorem app_mul (a b : M3) (v : V3) : appZ (mulZ a b) v = appZ a (appZ b v) := by
  simp only [appZ, mulZ, V3.mk.injEq]
  refine ⟨?_, ?_, ?_⟩ <;> grind
theorem app_add (a : M3) (v w : V3) : appZ a (addV v w) = addV (appZ a v) (appZ a w) := by
  simp only [appZ, addV, V3.mk.injEq]
  refine ⟨?_, ?_, ?_⟩ <;> grind
theorem app_neg (a : M3) (v : V3) : appZ a (negV v) = negV (appZ a v) := by
  simp only [appZ, negV, V3.mk.injEq]
  refine ⟨?_, ?_, ?_⟩ <;> grind
theorem app_sca (a : M3) (n : Int) (v : V3) : appZ a (scaV n v) = scaV n (appZ a v) := by
  simp only [appZ, scaV, V3.mk.injEq]
  refine ⟨?_, ?_, ?_⟩ <;> grind
theorem app_one (v : V3) : appZ (oneZ 1) v = v := by
  cases v; simp [appZ, oneZ]
/-! ### Columns modulo p -/
def eqV (p : Int) (v w : V3) : Prop := modV p v = modV p w
theorem eqV_iff {p : Int} {v w : V3} : eqV p v w ↔ v.x % p = w.x % p ∧ v.y % p = w.y % p ∧ v.z % p = w.z % p := by
  simp [eqV, modV]
theorem eqV.refl (p : Int) (v : V3) : eqV p v v := rfl
theorem eqV.symm {p : Int} {v w : V3} (h : eqV p v w) : eqV p w v := Eq.symm h
theorem eqV.trans {p : Int} {u v w : V3} (h : eqV p u v) (h' : eqV p v w) : eqV p u w := Eq.trans h h'
theorem eqV_mod (p : Int) (v : V3) : eqV p (modV p v) v := by
  rw [eqV_iff]; simp only [modV]
  exact ⟨Int.emod_emod_of_dvd _ (Int.dvd_refl p), Int.emod_emod_of_dvd _ (Int.dvd_refl p), Int.emod_emod_of_dvd _ (Int.dvd_refl p)⟩
theorem eqV_add {p : Int} {a b c d : V3} (h : eqV p a b) (h' : eqV p c d) : eqV p (addV a c) (addV b d) := by
  rw [eqV_iff] at *
  obtain ⟨h1, h2, h3⟩ := h
  obtain ⟨h4, h5, h6⟩ := h'
  simp only [addV]
  refine ⟨?_, ?_, ?_⟩
  · rw [Int.add_emod, h1, h4, ← Int.add_emod]
  · rw [Int.add_emod, h2, h5, ← Int.add_emod]
  · rw [Int.add_emod, h3, h6, ← Int.add_emod]
theorem eqV_sca {p : Int} (n : Int) {a b : V3} (h : eqV p a b) : eqV p (scaV n a) (scaV n b) := by
  rw [eqV_iff] at *
  obtain ⟨h1, h2, h3⟩ := h
  simp only [scaV]
  refine ⟨?_, ?_, ?_⟩
  · rw [Int.mul_emod, h1, ← Int.mul_emod]
  · rw [Int.mul_emod, h2, ← Int.mul_emod]
  · rw [Int.mul_emod, h3, ← Int.mul_emod]
theorem neg_sca (a : V3) : negV a = scaV (-1) a := by
  simp only [negV, scaV, V3.mk.injEq]; omega
theorem eqV_neg {p : Int} {a b : V3} (h : eqV p a b) : eqV p (negV a) (negV b) := by
  rw [neg_sca, neg_sca]; exact eqV_sca _ h
theorem dot_modr (a b c x y z p : Int) : (a * (x % p) + b * (y % p) + c * (z % p)) % p = (a * x + b * y + c * z) % p := by
  have := dot_modl x y z a b c p
  rw [Int.mul_comm a, Int.mul_comm b, Int.mul_comm c, this, Int.mul_comm x, Int.mul_comm y, Int.mul_comm z]
theorem eqV_app {p : Int} (m : M3) {a b : V3} (h : eqV p a b) : eqV p (appZ m a) (appZ m b) := by
  have key : ∀ v : V3, modV p (appZ m (modV p v)) = modV p (appZ m v) := fun v => by
    simp only [modV, appZ, dot_modr]
  have h' : modV p a = modV p b := h
  show modV p _ = modV p _
  rw [← key a, ← key b, h']
theorem addV_assoc (a b c : V3) : addV (addV a b) c = addV a (addV b c) := by
  simp only [addV, V3.mk.injEq]; omega
theorem addV_comm (a b : V3) : addV a b = addV b a := by
  simp only [addV, V3.mk.injEq]; omega
theorem addV_zero (a : V3) : addV a (V3.mk 0 0 0) = a := by
  cases a; simp [addV]
theorem addV_neg (a : V3) : addV a (negV a) = V3.mk 0 0 0 := by
  simp only [addV, negV, V3.mk.injEq]; omega
theorem app_zero (m : M3) : appZ m (V3.mk 0 0 0) = V3.mk 0 0 0 := by simp [appZ]
theorem sca_add (n : Int) (a b : V3) : scaV n (addV a b) = addV (scaV n a) (scaV n b) := by
  simp only [scaV, addV, Int.mul_add]
theorem sca_sca (n k : Int) (a : V3) : scaV n (scaV k a) = scaV (n * k) a := by
  simp only [scaV, Int.mul_assoc]
theorem Op3.ext' {a b : Op3} (h1 : a.R = b.R) (h2 : a.T = b.T) : a = b := by
  cases a; cases b; simp only at h1 h2; rw [h1, h2]

/-! ### Maps -/
theorem mulO_assoc (a b c : Op3) : mulO (mulO a b) c = mulO a (mulO b c) := by
  refine Op3.ext' (mulZ_assoc _ _ _) ?_
  show eqV 24 (addV (appZ (mulZ a.R b.R) c.T) (modV 24 (addV (appZ a.R b.T) a.T))) (addV (appZ a.R (modV 24 (addV (appZ b.R c.T) b.T))) a.T)
  rw [app_mul]
  refine (eqV_add (eqV.refl _ _) (eqV_mod _ _)).trans ?_
  refine eqV.trans ?_ (eqV_add (eqV_app a.R (eqV_mod 24 (addV (appZ b.R c.T) b.T))) (eqV.refl _ _)).symm
  rw [app_add, addV_assoc]
  exact eqV.refl _ _
theorem mulO_one {o : Op3} (h : inT o.T = true) : mulO o oneO = o ∧ mulO oneO o = o := by
  constructor
  · refine Op3.ext' (mulZ_one _).2 ?_
    show modV 24 (addV (appZ o.R (V3.mk 0 0 0)) o.T) = o.T
    rw [app_zero, addV_comm, addV_zero, modV_id h]
  · refine Op3.ext' (mulZ_one _).1 ?_
    show modV 24 (addV (appZ (oneZ 1) o.T) (V3.mk 0 0 0)) = o.T
    rw [app_one, addV_zero, modV_id h]
theorem Frm.mul {a b : Op3} (ha : Frm a) (hb : Frm b) (h : errM (mulZ a.R b.R) = 0) : Frm (mulO a b) := by
  refine ⟨inT_mod _, okM_B (errM_ok.1 h), ?_⟩
  show detZ (mulZ a.R b.R) = 1 ∨ detZ (mulZ a.R b.R) = -1
  rw [det_mul]
  rcases ha.d with e | e <;> rcases hb.d with e' | e' <;> rw [e, e'] <;> decide
theorem Frm.err {a : Op3} (h : Frm a) : errO a = 0 := errO_ok.2 h
theorem errL_frm {a b : Op3} (ha : Frm a) (hb : Frm b) : errL [a, b] = 0 := errL_zero.2 fun o ho => by
  rcases List.mem_cons.1 ho with rfl | ho
  · exact ha.err
  · obtain rfl := List.mem_singleton.1 ho; exact hb.err
theorem frm_errL {a b : Op3} (h : errL [a, b] = 0) : Frm a ∧ Frm b :=
  ⟨errO_ok.1 (errL_zero.1 h a (List.mem_cons_self ..)), errO_ok.1 (errL_zero.1 h b (List.mem_cons_of_mem _ (List.mem_cons_self ..)))⟩
theorem mulE_frm {a b : Op3} (ha : Frm a) (hb : Frm b) : mulE a b = errM (mulZ a.R b.R) := by
  unfold mulE; rw [if_pos (errL_frm ha hb)]
theorem errL_vals (l : List Op3) : errL l = 0 ∨ errL l = 3 ∨ errL l = 4 := by
  unfold errL
  split
  · exact .inr (.inl rfl)
  · split
    · exact .inr (.inr rfl)
    · exact .inl rfl
theorem mulE_vals (a b : Op3) : mulE a b = 0 ∨ mulE a b = 3 ∨ mulE a b = 4 := by
  unfold mulE; split
  · rcases errM_cases (mulZ a.R b.R) with h | h
    · exact .inl h
    · exact .inr (.inr h)
  · exact errL_vals _
theorem mulE_ok {a b : Op3} (h : mulE a b = 0) : Frm a ∧ Frm b ∧ errM (mulZ a.R b.R) = 0 := by
  unfold mulE at h
  split at h
  · rename_i h1
    obtain ⟨ha, hb⟩ := frm_errL h1
    exact ⟨ha, hb, h⟩
  · exact absurd h (by assumption)
theorem oneO_frm : Frm oneO := ⟨by decide, by refine ⟨?_, ?_, ?_, ?_, ?_, ?_, ?_, ?_, ?_⟩ <;> decide, .inl (by decide)⟩
theorem invZ_B {m : M3} (h : Bnd 1000 m) (hd : detZ m = 1 ∨ detZ m = -1) : Bnd 2000000 (invZ m) := sca_B (adjZ_B h) hd
theorem Frm.inv {o : Op3} (h : Frm o) (he : errM (invZ o.R) = 0) : Frm (invO o) := by
  refine ⟨inT_mod _, okM_B (errM_ok.1 he), ?_⟩
  show detZ (invZ o.R) = 1 ∨ detZ (invZ o.R) = -1
  rw [det_sca_adj h.d]; exact h.d
theorem inv_mul {o : Op3} (h : Frm o) : mulO o (invO o) = oneO ∧ mulO (invO o) o = oneO := by
  constructor
  · refine Op3.ext' (inv_r h.d) ?_
    show eqV 24 (addV (appZ o.R (modV 24 (negV (appZ (invZ o.R) o.T)))) o.T) (V3.mk 0 0 0)
    refine (eqV_add (eqV_app o.R (eqV_mod _ _)) (eqV.refl _ _)).trans ?_
    rw [app_neg, ← app_mul, inv_r h.d, app_one, addV_comm, addV_neg]
    exact eqV.refl _ _
  · refine Op3.ext' (inv_l h.d) ?_
    show eqV 24 (addV (appZ (invZ o.R) o.T) (modV 24 (negV (appZ (invZ o.R) o.T)))) (V3.mk 0 0 0)
    refine (eqV_add (eqV.refl _ _) (eqV_mod _ _)).trans ?_
    rw [addV_neg]
    exact eqV.refl _ _
/-- What undoes on either side is one. -/
theorem undo_unique {a b c : Op3} (hb : inT b.T = true) (hc : inT c.T = true) (h1 : mulO b a = oneO) (h2 : mulO a c = oneO) : b = c := by
  have := mulO_assoc b a c
  rw [h1, h2, (mulO_one hb).1, (mulO_one hc).2] at this
  exact this.symm
theorem inv_inv {o : Op3} (h : Frm o) (he : errM (invZ o.R) = 0) : invO (invO o) = o := by
  have hq := h.inv he
  exact undo_unique (inT_mod _) h.T (inv_mul hq).2 (inv_mul h).2
theorem invE_frm {o : Op3} (h : Frm o) : invE o = errM (invZ o.R) := by
  unfold invE; rw [if_pos h.err]
theorem invE_ok {o : Op3} (h : invE o = 0) : Frm o ∧ errM (invZ o.R) = 0 := by
  unfold invE at h
  split at h
  · exact ⟨errO_ok.1 (by assumption), h⟩
  · exact absurd h (by assumption)
/-! ### Places -/
theorem modV_id' {m : Int} {x : V3} (h : (0 ≤ x.x ∧ x.x < m) ∧ (0 ≤ x.y ∧ x.y < m) ∧ (0 ≤ x.z ∧ x.z < m)) : modV m x = x := by
  obtain ⟨⟨a, b⟩, ⟨c, d⟩, e, f⟩ := h
  cases x
  simp only [modV, V3.mk.injEq]
  exact ⟨Int.emod_eq_of_lt a b, Int.emod_eq_of_lt c d, Int.emod_eq_of_lt e f⟩
theorem frmP_mod {m : Int} (h : rgtM m = true) (v : V3) : frmP (Pt.mk m (modV m v)) = true := by
  have hm := (rgt_in h).1
  rw [frmP_iff]
  refine ⟨rgt_iff.1 h, ⟨Int.emod_nonneg _ (by omega), Int.emod_lt_of_pos _ (by omega)⟩, ⟨Int.emod_nonneg _ (by omega), Int.emod_lt_of_pos _ (by omega)⟩, Int.emod_nonneg _ (by omega), Int.emod_lt_of_pos _ (by omega)⟩
theorem frmP_rgt {p : Pt} (h : frmP p = true) : rgtM p.M = true := rgt_iff.2 (frmP_iff.1 h).1
theorem frm_appX (o : Op3) {p : Pt} (h : frmP p = true) : frmP (appX o p) = true := frmP_mod (frmP_rgt h) _
/-- A translation's 24ths in M-ths: modulo 24 is modulo M. -/
theorem sca24 {M : Int} (h : rgtM M = true) {a b : V3} (hab : eqV 24 a b) : eqV M (scaV (M / 24) a) (scaV (M / 24) b) := by
  rw [eqV_iff] at *
  obtain ⟨h1, h2, h3⟩ := hab
  simp only [scaV]
  have key : ∀ x y : Int, x % 24 = y % 24 → M / 24 * x % M = M / 24 * y % M := fun x y e => by
    rcases rgt_iff.1 h with rfl | rfl | rfl | rfl <;> simp only [Int.reduceDiv] <;> omega
  exact ⟨key _ _ h1, key _ _ h2, key _ _ h3⟩
theorem appX_mul (a b : Op3) {p : Pt} (h : frmP p = true) : appX (mulO a b) p = appX a (appX b p) := by
  have hr := frmP_rgt h
  show Pt.mk p.M _ = Pt.mk p.M _
  congr 1
  show eqV p.M (addV (appZ (mulZ a.R b.R) p.X) (scaV (p.M / 24) (modV 24 (addV (appZ a.R b.T) a.T)))) (addV (appZ a.R (modV p.M (addV (appZ b.R p.X) (scaV (p.M / 24) b.T)))) (scaV (p.M / 24) a.T))
  refine (eqV_add (eqV.refl _ _) (sca24 hr (eqV_mod _ _))).trans ?_
  refine eqV.trans ?_ (eqV_add (eqV_app a.R (eqV_mod p.M (addV (appZ b.R p.X) (scaV (p.M / 24) b.T)))) (eqV.refl _ _)).symm
  rw [app_mul, app_add, app_sca, sca_add, addV_assoc]
  exact eqV.refl _ _
theorem appX_one {p : Pt} (h : frmP p = true) : appX oneO p = p := by
  obtain ⟨_, h2⟩ := frmP_iff.1 h
  show Pt.mk p.M (modV p.M (addV (appZ (oneZ 1) p.X) (scaV (p.M / 24) (V3.mk 0 0 0)))) = p
  have e : scaV (p.M / 24) (V3.mk 0 0 0) = V3.mk 0 0 0 := by simp [scaV]
  rw [e, app_one, addV_zero, modV_id' h2]
end Go.Fx
end
section
namespace Go.Fx
open Go

theorem powI_left (m : M3) (k : Nat) : mulZ m (powI m k) = powI m (k + 1) := by
  have := powI_add m 1 k
  rw [powI_one, Nat.add_comm] at this
  exact this.symm
def opw (o : Op3) : Nat → Op3
  | 0 => oneO
  | k + 1 => mulO o (opw o k)
theorem opw_R (o : Op3) : ∀ k, (opw o k).R = powI o.R k
  | 0 => rfl
  | k + 1 => by show mulZ o.R (opw o k).R = _; rw [opw_R o k, powI_left]
theorem opw_T (o : Op3) : ∀ k, (opw o k).T = sumT o k
  | 0 => rfl
  | k + 1 => by
    show modV 24 (addV (appZ o.R (opw o k).T) o.T) = modV 24 (addV (modV 24 (appZ o.R (sumT o k))) o.T)
    rw [opw_T o k]
    exact (eqV_add (eqV_mod 24 _) (eqV.refl _ _)).symm
theorem sumT_in (o : Op3) : ∀ k, inT (sumT o k) = true
  | 0 => (by decide : inT (V3.mk 0 0 0) = true)
  | _ + 1 => inT_mod _
theorem opw_in (o : Op3) (k : Nat) : inT (opw o k).T = true := by rw [opw_T]; exact sumT_in o k
theorem opw_add (o : Op3) : ∀ a b, opw o (a + b) = mulO (opw o a) (opw o b)
  | 0, b => by rw [Nat.zero_add]; exact (mulO_one (opw_in o b)).2.symm
  | a + 1, b => by
    rw [show a + 1 + b = a + b + 1 by omega, opw, opw_add o a b, ← mulO_assoc]; rfl
theorem opw_one_iff (o : Op3) (k : Nat) : opw o k = oneO ↔ powI o.R k = oneZ 1 ∧ sumT o k = V3.mk 0 0 0 := by
  constructor
  · intro h
    exact ⟨by rw [← opw_R, h]; rfl, by rw [← opw_T, h]; rfl⟩
  · rintro ⟨h1, h2⟩
    exact Op3.ext' (by rw [opw_R, h1]; rfl) (by rw [opw_T, h2]; rfl)
theorem zerV_iff {v : V3} : zerV v = true ↔ v = V3.mk 0 0 0 := by
  cases v; simp [zerV]
theorem timT_sca (n : Int) (t : V3) : timT n t = modV 24 (scaV n t) := rfl
/-- Behind r times over, where the matrix is the identity, translations add up. -/
theorem opw_mul {o : Op3} {r : Nat} (h : powI o.R r = oneZ 1) : ∀ n : Nat, opw o (r * n) = Op3.mk (oneZ 1) (timT n (sumT o r))
  | 0 => by
    refine Op3.ext' rfl ?_
    show V3.mk 0 0 0 = timT 0 (sumT o r)
    simp [timT]
  | n + 1 => by
    rw [Nat.mul_succ, opw_add, opw_mul h n]
    have e : opw o r = Op3.mk (oneZ 1) (sumT o r) := Op3.ext' (by rw [opw_R, h]) (opw_T o r)
    rw [e]
    refine Op3.ext' (mulZ_one _).1 ?_
    show eqV 24 (addV (appZ (oneZ 1) (sumT o r)) (timT n (sumT o r))) (scaV ((n + 1 : Nat) : Int) (sumT o r))
    rw [app_one]
    refine (eqV_add (eqV.refl _ _) (eqV_mod 24 (scaV n (sumT o r)))).trans ?_
    have : addV (sumT o r) (scaV n (sumT o r)) = scaV ((n + 1 : Nat) : Int) (sumT o r) := by
      simp only [addV, scaV, V3.mk.injEq, Int.natCast_add, Int.add_mul]; omega
    rw [this]; exact eqV.refl _ _
theorem lstT_least (t : V3) : ∀ (f : Nat) (n : Int), (∃ j : Int, n ≤ j ∧ j < n + f ∧ zerV (timT j t) = true) → n ≤ lstT t f n ∧ lstT t f n < n + f ∧ zerV (timT (lstT t f n) t) = true ∧ ∀ j, n ≤ j → j < lstT t f n → zerV (timT j t) = false
  | 0, n, ⟨j, h1, h2, _⟩ => by omega
  | f + 1, n, ⟨j, h1, h2, h3⟩ => by
    unfold lstT
    split
    · rename_i h
      exact ⟨Int.le_refl _, by omega, h, fun j a b => by omega⟩
    · rename_i h
      have hne : j ≠ n := fun e => h (e ▸ h3)
      obtain ⟨q1, q2, q3, q4⟩ := lstT_least t f (n + 1) ⟨j, by omega, by omega, h3⟩
      refine ⟨by omega, by omega, q3, fun j a b => ?_⟩
      by_cases e : j = n
      · subst e; exact Bool.eq_false_iff.2 h
      · exact q4 j (by omega) b
theorem tim24 (t : V3) : zerV (timT 24 t) = true := by
  rw [zerV_iff]; simp [timT]
theorem lst_ok (t : V3) : 1 ≤ lstT t 24 1 ∧ lstT t 24 1 ≤ 24 ∧ zerV (timT (lstT t 24 1) t) = true ∧ ∀ j, 1 ≤ j → j < lstT t 24 1 → zerV (timT j t) = false := by
  obtain ⟨a, b, c, d⟩ := lstT_least t 24 1 ⟨24, by decide, by decide, tim24 t⟩
  exact ⟨a, by omega, c, d⟩
/-- The least power that moves nothing. -/
def isOrd (o : Op3) (n : Nat) : Prop := 1 ≤ n ∧ opw o n = oneO ∧ ∀ j, 1 ≤ j → j < n → opw o j ≠ oneO
theorem isOrd_unique {o : Op3} {n k : Nat} (h : isOrd o n) (h' : isOrd o k) : n = k := by
  obtain ⟨h1, h2, h3⟩ := h
  obtain ⟨h4, h5, h6⟩ := h'
  rcases Nat.lt_trichotomy n k with h | h | h
  · exact absurd h2 (h6 n h1 h)
  · exact h
  · exact absurd h5 (h3 k h4 h)
theorem oroE_frm {o : Op3} (h : Frm o) : oroE o = ordE o.R := by unfold oroE; rw [if_pos h.err]
theorem ord_isOrd {o : Op3} (h : Frm o) (he : ordE o.R = 0) : ∃ N : Nat, oroZ o = N ∧ N ≤ 144 ∧ isOrd o N := by
  have hu : uniE o.R = 0 := uniE_of h.B h.d
  obtain ⟨v1, v2⟩ := ord_vals hu
  have hr : rordX o.R ≠ 0 := fun e => by rw [v2, if_pos e] at he; exact absurd he (by decide)
  obtain ⟨r, r1, r2, r3, _, r5, r6⟩ := min_order hr
  obtain ⟨l1, l2, l3, l4⟩ := lst_ok (sumT o r)
  have hz : ordZ o.R = (r : Int) := by rw [v1, r1]
  have hm : r * (lstT (sumT o r) 24 1).toNat ≤ 6 * 24 := Nat.mul_le_mul r3 (by omega)
  refine ⟨r * (lstT (sumT o r) 24 1).toNat, ?_, hm, ?_, ?_, fun j j1 j2 hj => ?_⟩
  · unfold oroZ
    rw [oroE_frm h, if_pos he, hz, Int.toNat_natCast, Int.natCast_mul]
    congr 1; omega
  · exact Nat.mul_pos r2 (by omega)
  · rw [opw_mul r5, show (((lstT (sumT o r) 24 1).toNat : Nat) : Int) = lstT (sumT o r) 24 1 by omega, zerV_iff.1 l3]; rfl
  · obtain ⟨h1, _⟩ := (opw_one_iff o j).1 hj
    have hd := (pow_iff r2 r5 r6 j).1 h1
    have e : r * (j / r) = j := by have := Nat.div_add_mod j r; omega
    generalize j / r = q at e
    subst e
    have hq : q < (lstT (sumT o r) 24 1).toNat := Nat.lt_of_mul_lt_mul_left j2
    have hq1 : 1 ≤ q := by
      by_cases e0 : q = 0
      · subst e0; omega
      · omega
    rw [opw_mul r5] at hj
    have := congrArg Op3.T hj
    have hf := l4 (q : Int) (by omega) (by omega)
    have ht : zerV (timT (q : Int) (sumT o r)) = true := zerV_iff.2 this
    rw [ht] at hf; exact absurd hf (by decide)
/-! ### Told from elsewhere, undone -/
theorem conj_opw {m o q : Op3} (hm : inT m.T = true) (h1 : mulO m q = oneO) (h2 : mulO q m = oneO) : ∀ k, opw (mulO (mulO m o) q) k = mulO (mulO m (opw o k)) q
  | 0 => by show oneO = mulO (mulO m oneO) q; rw [(mulO_one hm).1, h1]
  | k + 1 => by
    show mulO (mulO (mulO m o) q) (opw (mulO (mulO m o) q) k) = mulO (mulO m (mulO o (opw o k))) q
    rw [conj_opw hm h1 h2 k, mulO_assoc (mulO m o) q, mulO_assoc m (opw o k) q, ← mulO_assoc q m, h2, (mulO_one (inT_mod _)).2, mulO_assoc m o, ← mulO_assoc o, ← mulO_assoc m]
theorem conj_one_op {m q : Op3} (X : Op3) (hX : inT X.T = true) (hm : inT m.T = true) (hq : inT q.T = true) (h1 : mulO m q = oneO) (h2 : mulO q m = oneO) : mulO (mulO m X) q = oneO ↔ X = oneO := by
  constructor
  · intro h
    have : mulO (mulO q (mulO (mulO m X) q)) m = X := by
      rw [← mulO_assoc, ← mulO_assoc, h2, (mulO_one hX).2, mulO_assoc, h2, (mulO_one hX).1]
    rw [← this, h, (mulO_one hq).1, h2]
  · rintro rfl
    rw [(mulO_one hm).1, h1]
theorem isOrd_conj {m o q : Op3} {n : Nat} (hm : inT m.T = true) (hq : inT q.T = true) (h1 : mulO m q = oneO) (h2 : mulO q m = oneO) (h : isOrd o n) : isOrd (mulO (mulO m o) q) n := by
  obtain ⟨a, b, c⟩ := h
  refine ⟨a, ?_, fun j j1 j2 hj => ?_⟩
  · rw [conj_opw hm h1 h2]; exact (conj_one_op _ (opw_in o n) hm hq h1 h2).2 b
  · rw [conj_opw hm h1 h2] at hj; exact c j j1 j2 ((conj_one_op _ (opw_in o j) hm hq h1 h2).1 hj)
theorem opw_undo {o q : Op3} (h1 : mulO o q = oneO) : ∀ k, mulO (opw o k) (opw q k) = oneO
  | 0 => (mulO_one (by decide : inT (V3.mk 0 0 0) = true)).1
  | k + 1 => by
    have e : opw q (k + 1) = mulO (opw q k) q := by
      rw [opw_add q k 1]
      show mulO (opw q k) (mulO q oneO) = _
      by_cases hq : inT q.T = true
      · rw [(mulO_one hq).1]
      · rw [← mulO_assoc]
        have : ∀ X : Op3, mulO (mulO X q) oneO = mulO X q := fun X => (mulO_one (inT_mod _)).1
        exact this _
    show mulO (mulO o (opw o k)) (opw q (k + 1)) = oneO
    rw [e, mulO_assoc, ← mulO_assoc (opw o k), opw_undo h1 k, ← mulO_assoc, mulO_assoc o oneO]
    have : ∀ X : Op3, mulO o (mulO oneO X) = mulO o X := fun X => by
      refine Op3.ext' (by show mulZ o.R (mulZ (oneZ 1) X.R) = _; rw [(mulZ_one _).1]; rfl) ?_
      show eqV 24 (addV (appZ o.R (modV 24 (addV (appZ (oneZ 1) X.T) (V3.mk 0 0 0)))) o.T) (addV (appZ o.R X.T) o.T)
      rw [app_one, addV_zero]
      exact eqV_add (eqV_app _ (eqV_mod _ _)) (eqV.refl _ _)
    rw [this, h1]
theorem isOrd_inv {o q : Op3} {n : Nat} (h1 : mulO o q = oneO) (h2 : mulO q o = oneO) (h : isOrd o n) : isOrd q n := by
  obtain ⟨a, b, c⟩ := h
  refine ⟨a, ?_, fun j j1 j2 hj => c j j1 j2 ?_⟩
  · have := opw_undo h1 n
    rw [b, (mulO_one (opw_in q n)).2] at this; exact this
  · have := opw_undo h2 j
    rw [hj, (mulO_one (opw_in o j)).2] at this; exact this
end Go.Fx
end
