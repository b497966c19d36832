/-
  Plain facts on operations.
-/
import Derived.Test.YtcadkndjcneedaaGreatX
set_option linter.unusedSimpArgs false
set_option linter.unusedVariables false
set_option linter.unusedSectionVars false
section
namespace Go.Fx
open Go

def emo (n m : Int) : Int := n % m
def modV (p : Int) (v : V3) : V3 := V3.mk (v.x % p) (v.y % p) (v.z % p)
def addV (a b : V3) : V3 := V3.mk (a.x + b.x) (a.y + b.y) (a.z + b.z)
def negV (a : V3) : V3 := V3.mk (-a.x) (-a.y) (-a.z)
def addT (a b : V3) : V3 := modV 24 (addV a b)
def negT (a : V3) : V3 := modV 24 (negV a)
def shiT (r : M3) (t : V3) : V3 := modV 24 (appZ r t)
def in24 (x : Int) : Bool := decide (0 ≤ x) && decide (x ≤ 23)
def inT (t : V3) : Bool := in24 t.x && in24 t.y && in24 t.z
def errO (o : Op3) : Int := if inT o.T = true then uniE o.R else 3
def errL (l : List Op3) : Int := if (l.any fun o => decide (errO o = 3)) = true then 3 else if (l.any fun o => decide (errO o = 4)) = true then 4 else 0
def nilE (o : Op3) : Bool := decide (errL [o] = 0)
def oneO : Op3 := Op3.mk (oneZ 1) (V3.mk 0 0 0)
def zerO : Op3 := Op3.mk (M3.mk 0 0 0 0 0 0 0 0 0) (V3.mk 0 0 0)
def selO (e : Int) (o : Op3) : Op3 := if e = 0 then o else zerO
def mulO (a b : Op3) : Op3 := Op3.mk (mulZ a.R b.R) (modV 24 (addV (appZ a.R b.T) a.T))
def mulE (a b : Op3) : Int := if errL [a, b] = 0 then errM (mulZ a.R b.R) else errL [a, b]
def invO (o : Op3) : Op3 := Op3.mk (invZ o.R) (modV 24 (negV (appZ (invZ o.R) o.T)))
def invE (o : Op3) : Int := if errO o = 0 then errM (invZ o.R) else errO o
/-- What the code's 'mod' gives. -/
def r24 (x : Int) : Int := (Int.tmod x 24 + 24) % 24
theorem r24_eq (x : Int) : r24 x = x % 24 := by
  have := resP_mod 24 x
  unfold resP at this
  unfold r24
  rwa [Int.emod_emod_of_dvd _ (Int.dvd_refl 24)] at this
theorem tmod_emod (x p : Int) : Int.tmod x p % p = x % p := by
  have h1 : Int.tmod x p = x - p * Int.tdiv x p := by have := Int.tmod_add_mul_tdiv x p; omega
  rw [h1, show x - p * Int.tdiv x p = x + p * (-Int.tdiv x p) by rw [Int.mul_neg]; omega, Int.add_mul_emod_self_left]
theorem add24' (a b : Int) : (Int.tmod a 24 + Int.tmod b 24) % 24 = (a + b) % 24 := by
  rw [Int.add_emod, tmod_emod, tmod_emod, ← Int.add_emod]
theorem errM_34 (m : M3) : uniE m = 0 ∨ uniE m = 3 ∨ uniE m = 4 := by
  unfold uniE
  rcases errM_cases m with h | h
  · rw [if_pos h]; split
    · exact .inl rfl
    · exact .inr (.inl rfl)
  · rw [if_neg (by rw [h]; decide), h]; exact .inr (.inr rfl)
theorem errO_034 (o : Op3) : errO o = 0 ∨ errO o = 3 ∨ errO o = 4 := by
  unfold errO; split
  · exact errM_34 _
  · exact .inr (.inl rfl)
theorem errL_two (a b : Op3) : errL [a, b] = if errO a = 3 ∨ errO b = 3 then 3 else if errO a = 4 ∨ errO b = 4 then 4 else 0 := by
  unfold errL
  simp
theorem errL_zero {l : List Op3} : errL l = 0 ↔ ∀ o ∈ l, errO o = 0 := by
  unfold errL
  constructor
  · intro h o ho
    rcases errO_034 o with e | e | e
    · exact e
    · rw [if_pos (List.any_eq_true.2 ⟨o, ho, by rw [e]; rfl⟩)] at h; exact absurd h (by decide)
    · split at h
      · exact absurd h (by decide)
      · rw [if_pos (List.any_eq_true.2 ⟨o, ho, by rw [e]; rfl⟩)] at h; exact absurd h (by decide)
  · intro h
    rw [if_neg, if_neg]
    · intro h'; obtain ⟨o, ho, e⟩ := List.any_eq_true.1 h'; rw [h o ho] at e; exact absurd e (by decide)
    · intro h'; obtain ⟨o, ho, e⟩ := List.any_eq_true.1 h'; rw [h o ho] at e; exact absurd e (by decide)
/-- A map in form. -/
structure Frm (o : Op3) : Prop where
  T : inT o.T = true
  B : Bnd 1000 o.R
  d : detZ o.R = 1 ∨ detZ o.R = -1
theorem errO_ok {o : Op3} : errO o = 0 ↔ Frm o := by
  unfold errO
  constructor
  · intro h
    split at h
    · rename_i ht
      obtain ⟨h1, _, h2⟩ := uniE_ok h
      exact ⟨ht, h1, h2⟩
    · exact absurd h (by decide)
  · rintro ⟨h1, h2, h3⟩
    rw [if_pos h1, uniE_of h2 h3]
theorem in24_iff {x : Int} : in24 x = true ↔ 0 ≤ x ∧ x ≤ 23 := by simp [in24]
theorem inT_iff {t : V3} : inT t = true ↔ (0 ≤ t.x ∧ t.x ≤ 23) ∧ (0 ≤ t.y ∧ t.y ≤ 23) ∧ (0 ≤ t.z ∧ t.z ≤ 23) := by
  simp only [inT, Bool.and_eq_true, in24_iff, and_assoc]
theorem inT_mod (v : V3) : inT (modV 24 v) = true := by
  rw [inT_iff]
  have h : ∀ x : Int, 0 ≤ x % 24 ∧ x % 24 ≤ 23 := fun x => by omega
  exact ⟨h _, h _, h _⟩
theorem modV_id {t : V3} (h : inT t = true) : modV 24 t = t := by
  rw [inT_iff] at h
  obtain ⟨⟨a, b⟩, ⟨c, d⟩, e, f⟩ := h
  cases t
  simp only [modV, V3.mk.injEq]
  simp only at a b c d e f
  omega
theorem V3.ext' {a b : V3} (h1 : a.x = b.x) (h2 : a.y = b.y) (h3 : a.z = b.z) : a = b := by
  cases a; cases b; simp only at h1 h2 h3; rw [h1, h2, h3]
end Go.Fx
end
section
namespace Go.Fx
open Go

def inM (m : Int) : Prop := 1 ≤ m ∧ m ≤ 1000000
theorem fmod_eq {n m : Int} (hm : inM m) : w64 (Int.tmod n m + m) = Int.tmod n m + m ∧ Int.tmod (Int.tmod n m + m) m = n % m ∧ m ≠ 0 := by
  obtain ⟨h1, h2⟩ := hm
  have hr : (n.tmod m).natAbs < m.natAbs := by rw [Int.natAbs_tmod]; exact Nat.mod_lt _ (by omega)
  refine ⟨w64_id (by omega) (by omega), ?_, by omega⟩
  rw [Int.tmod_eq_emod_of_nonneg (by omega)]
  have := resP_mod m n
  unfold resP at this
  rwa [Int.emod_emod_of_dvd _ (Int.dvd_refl m)] at this
def timT (n : Int) (a : V3) : V3 := V3.mk (n * a.x % 24) (n * a.y % 24) (n * a.z % 24)
def rgtM (m : Int) : Bool := decide (m = 24) || (decide (m = 48) || (decide (m = 96) || decide (m = 192)))
def inX (m x : Int) : Bool := decide (0 ≤ x) && decide (x < m)
def frmP (p : Pt) : Bool := rgtM p.M && (inX p.M p.X.x && (inX p.M p.X.y && inX p.M p.X.z))
def zerP : Pt := Pt.mk 0 (V3.mk 0 0 0)
def selP (e : Int) (p : Pt) : Pt := if e = 0 then p else zerP
def plaE (m : Int) : Int := if rgtM m = true then 0 else 1
def plaP (m : Int) (v : V3) : Pt := if rgtM m = true then Pt.mk m (modV m v) else zerP
def scaV (n : Int) (v : V3) : V3 := V3.mk (n * v.x) (n * v.y) (n * v.z)
def shfX (p : Pt) (t : V3) : Pt := Pt.mk p.M (modV p.M (addV p.X (scaV (p.M / 24) t)))
def shfE (p : Pt) : Int := if frmP p = true then 0 else 3
def shfP (p : Pt) (t : V3) : Pt := if frmP p = true then shfX p t else zerP
/-- Where a map sends a place. -/
def appX (o : Op3) (p : Pt) : Pt := Pt.mk p.M (modV p.M (addV (appZ o.R p.X) (scaV (p.M / 24) o.T)))
def appE (o : Op3) (p : Pt) : Int := if frmP p = true then errO o else 3
def appP (o : Op3) (p : Pt) : Pt := if appE o p = 0 then appX o p else zerP
def cmpV (a b : V3) : Int := cmpE a.x b.x (cmpE a.y b.y (cmpE a.z b.z 0))
def cmpO (a b : Op3) : Int := if cmpM a.R b.R = 0 then cmpV a.T b.T else cmpM a.R b.R
/-! ### Powers -/
def goL (o : Op3) : Nat → Op3 × Int → Op3 × Int
  | 0, s => s
  | k + 1, s => if s.2 = 0 then goL o k (selO (errM (mulO o s.1).R) (mulO o s.1), errM (mulO o s.1).R) else s
def powB (o : Op3) (n : Int) : Op3 := if errO o = 0 ∧ n < 0 then selO (invE o) (invO o) else o
def powF (o : Op3) (n : Int) : Int := if errO o = 0 then (if n < 0 then invE o else 0) else errO o
def powS (o : Op3) (n : Int) : Op3 × Int := goL (powB o n) n.natAbs (oneO, powF o n)
def powA (o : Op3) (n : Int) : Op3 × Int := if n < -1000 ∨ n > 1000 then (zerO, 1) else (selO (powS o n).2 (powS o n).1, (powS o n).2)
def powO (o : Op3) (n : Int) : Op3 := (powA o n).1
def powE (o : Op3) (n : Int) : Int := (powA o n).2
/-- A map's parts are small enough. -/
def sml (o : Op3) : Prop := errM o.R = 0 ∧ inT o.T = true
def pwInv (o : Op3) (n : Int) (w : Op3) (k e : Int) (p : Op3) : Prop :=
  w = powB o n ∧ (e = 0 → 0 ≤ k ∧ k ≤ 1000 ∧ sml w ∧ sml p) ∧ goL w k.toNat (p, e) = powS o n
def dpInv (o : Op3) (n : Int) (w : Op3) (k : Int) (p : Op3) : Prop :=
  w = powB o n ∧ 0 ≤ k ∧ k ≤ 1000 ∧ sml w ∧ sml p ∧ goL w k.toNat (p, 0) = powS o n
def pwMu (k : Int) : Int := k
/-! ### Orders -/
def sumT (o : Op3) : Nat → V3
  | 0 => V3.mk 0 0 0
  | k + 1 => addT (shiT o.R (sumT o k)) o.T
def zerV (v : V3) : Bool := decide (v.x = 0) && (decide (v.y = 0) && (decide (v.z = 0) && true))
/-- The least n from n on, at most f more, of which n t is nothing. -/
def lstT (t : V3) : Nat → Int → Int
  | 0, n => n
  | f + 1, n => if zerV (timT n t) = true then n else lstT t f (n + 1)
def oroE (o : Op3) : Int := if errO o = 0 then ordE o.R else errO o
def oroZ (o : Op3) : Int := if oroE o = 0 then ordZ o.R * lstT (sumT o (ordZ o.R).toNat) 24 1 else 0
def kinE (o : Op3) : Int := if errO o = 0 then ordE (scaZ (detZ o.R) o.R) else errO o
def kinZ (o : Op3) : Int := if kinE o = 0 then detZ o.R * ordZ (scaZ (detZ o.R) o.R) else 0
def soInv (o : Op3) (n k : Int) (t : V3) : Prop := 0 ≤ k ∧ (k ≤ n ∨ k = 0) ∧ t = sumT o k.toNat
def lsInv (t : V3) (n : Int) : Prop := 1 ≤ n ∧ n ≤ 24 ∧ lstT t 24 1 = lstT t (25 - n).toNat n
def atT (o : Op3) : Nat → V3
  | 0 => o.T
  | k + 1 => modV 24 (appZ o.R (atT o k))
def doInv (o : Op3) (n k : Int) (s t : V3) : Prop := 0 ≤ k ∧ (k ≤ n ∨ k = 0) ∧ s = sumT o k.toNat ∧ t = atT o k.toNat
end Go.Fx
end
section
namespace Go.Fx
open Go

theorem det_mul (a b : M3) : detZ (mulZ a b) = detZ a * detZ b := by
  simp only [detZ, mulZ]; grind
theorem app_mul (a b : M3) (v : V3) : appZ (mulZ a b) v = appZ a (appZ b v) := by
  simp only [appZ, mulZ, V3.mk.injEq]
  refine ⟨?_, ?_, ?_⟩ <;> grind
theorem app_add (a : M3) (v w : V3) : appZ a (addV v w) = addV (appZ a v) (appZ a w) := by
  simp only [appZ, addV, V3.mk.injEq]
  refine ⟨?_, ?_, ?_⟩ <;> grind
theorem app_neg (a : M3) (v : V3) : appZ a (negV v) = negV (appZ a v) := by
  simp only [appZ, negV, V3.mk.injEq]
  refine ⟨?_, ?_, ?_⟩ <;> grind
theorem app_one (v : V3) : appZ (oneZ 1) v = v := by
  cases v; simp [appZ, oneZ]
/-! ### Columns modulo p -/
def eqV (p : Int) (v w : V3) : Prop := modV p v = modV p w
theorem eqV_iff {p : Int} {v w : V3} : eqV p v w ↔ v.x % p = w.x % p ∧ v.y % p = w.y % p ∧ v.z % p = w.z % p := by
  simp [eqV, modV]
theorem eqV.refl (p : Int) (v : V3) : eqV p v v := rfl
theorem eqV.symm {p : Int} {v w : V3} (h : eqV p v w) : eqV p w v := Eq.symm h
theorem eqV.trans {p : Int} {u v w : V3} (h : eqV p u v) (h' : eqV p v w) : eqV p u w := Eq.trans h h'
theorem eqV_mod (p : Int) (v : V3) : eqV p (modV p v) v := by
  rw [eqV_iff]; simp only [modV]
  exact ⟨Int.emod_emod_of_dvd _ (Int.dvd_refl p), Int.emod_emod_of_dvd _ (Int.dvd_refl p), Int.emod_emod_of_dvd _ (Int.dvd_refl p)⟩
theorem eqV_add {p : Int} {a b c d : V3} (h : eqV p a b) (h' : eqV p c d) : eqV p (addV a c) (addV b d) := by
  rw [eqV_iff] at *
  obtain ⟨h1, h2, h3⟩ := h
  obtain ⟨h4, h5, h6⟩ := h'
  simp only [addV]
  refine ⟨?_, ?_, ?_⟩
  · rw [Int.add_emod, h1, h4, ← Int.add_emod]
  · rw [Int.add_emod, h2, h5, ← Int.add_emod]
  · rw [Int.add_emod, h3, h6, ← Int.add_emod]
theorem dot_modr (a b c x y z p : Int) : (a * (x % p) + b * (y % p) + c * (z % p)) % p = (a * x + b * y + c * z) % p := by
  have := dot_modl x y z a b c p
  rw [Int.mul_comm a, Int.mul_comm b, Int.mul_comm c, this, Int.mul_comm x, Int.mul_comm y, Int.mul_comm z]
theorem eqV_app {p : Int} (m : M3) {a b : V3} (h : eqV p a b) : eqV p (appZ m a) (appZ m b) := by
  have key : ∀ v : V3, modV p (appZ m (modV p v)) = modV p (appZ m v) := fun v => by
    simp only [modV, appZ, dot_modr]
  have h' : modV p a = modV p b := h
  show modV p _ = modV p _
  rw [← key a, ← key b, h']
theorem addV_assoc (a b c : V3) : addV (addV a b) c = addV a (addV b c) := by
  simp only [addV, V3.mk.injEq]; omega
theorem addV_comm (a b : V3) : addV a b = addV b a := by
  simp only [addV, V3.mk.injEq]; omega
theorem addV_zero (a : V3) : addV a (V3.mk 0 0 0) = a := by
  cases a; simp [addV]
theorem addV_neg (a : V3) : addV a (negV a) = V3.mk 0 0 0 := by
  simp only [addV, negV, V3.mk.injEq]; omega
theorem app_zero (m : M3) : appZ m (V3.mk 0 0 0) = V3.mk 0 0 0 := by simp [appZ]
theorem Op3.ext' {a b : Op3} (h1 : a.R = b.R) (h2 : a.T = b.T) : a = b := by
  cases a; cases b; simp only at h1 h2; rw [h1, h2]

/-! ### Maps -/
theorem mulO_assoc (a b c : Op3) : mulO (mulO a b) c = mulO a (mulO b c) := by
  refine Op3.ext' (mulZ_assoc _ _ _) ?_
  show eqV 24 (addV (appZ (mulZ a.R b.R) c.T) (modV 24 (addV (appZ a.R b.T) a.T))) (addV (appZ a.R (modV 24 (addV (appZ b.R c.T) b.T))) a.T)
  rw [app_mul]
  refine (eqV_add (eqV.refl _ _) (eqV_mod _ _)).trans ?_
  refine eqV.trans ?_ (eqV_add (eqV_app a.R (eqV_mod 24 (addV (appZ b.R c.T) b.T))) (eqV.refl _ _)).symm
  rw [app_add, addV_assoc]
  exact eqV.refl _ _
theorem mulO_one {o : Op3} (h : inT o.T = true) : mulO o oneO = o ∧ mulO oneO o = o := by
  constructor
  · refine Op3.ext' (mulZ_one _).2 ?_
    show modV 24 (addV (appZ o.R (V3.mk 0 0 0)) o.T) = o.T
    rw [app_zero, addV_comm, addV_zero, modV_id h]
  · refine Op3.ext' (mulZ_one _).1 ?_
    show modV 24 (addV (appZ (oneZ 1) o.T) (V3.mk 0 0 0)) = o.T
    rw [app_one, addV_zero, modV_id h]
theorem Frm.mul {a b : Op3} (ha : Frm a) (hb : Frm b) (h : errM (mulZ a.R b.R) = 0) : Frm (mulO a b) := by
  refine ⟨inT_mod _, okM_B (errM_ok.1 h), ?_⟩
  show detZ (mulZ a.R b.R) = 1 ∨ detZ (mulZ a.R b.R) = -1
  rw [det_mul]
  rcases ha.d with e | e <;> rcases hb.d with e' | e' <;> rw [e, e'] <;> decide
theorem Frm.err {a : Op3} (h : Frm a) : errO a = 0 := errO_ok.2 h
theorem errL_frm {a b : Op3} (ha : Frm a) (hb : Frm b) : errL [a, b] = 0 := errL_zero.2 fun o ho => by
  rcases List.mem_cons.1 ho with rfl | ho
  · exact ha.err
  · obtain rfl := List.mem_singleton.1 ho; exact hb.err
theorem frm_errL {a b : Op3} (h : errL [a, b] = 0) : Frm a ∧ Frm b :=
  ⟨errO_ok.1 (errL_zero.1 h a (List.mem_cons_self ..)), errO_ok.1 (errL_zero.1 h b (List.mem_cons_of_mem _ (List.mem_cons_self ..)))⟩
theorem mulE_frm {a b : Op3} (ha : Frm a) (hb : Frm b) : mulE a b = errM (mulZ a.R b.R) := by
  unfold mulE; rw [if_pos (errL_frm ha hb)]
theorem oneO_frm : Frm oneO := ⟨by decide, by refine ⟨?_, ?_, ?_, ?_, ?_, ?_, ?_, ?_, ?_⟩ <;> decide, .inl (by decide)⟩
theorem invZ_B {m : M3} (h : Bnd 1000 m) (hd : detZ m = 1 ∨ detZ m = -1) : Bnd 2000000 (invZ m) := sca_B (adjZ_B h) hd
theorem Frm.inv {o : Op3} (h : Frm o) (he : errM (invZ o.R) = 0) : Frm (invO o) := by
  refine ⟨inT_mod _, okM_B (errM_ok.1 he), ?_⟩
  show detZ (invZ o.R) = 1 ∨ detZ (invZ o.R) = -1
  rw [det_sca_adj h.d]; exact h.d
theorem inv_mul {o : Op3} (h : Frm o) : mulO o (invO o) = oneO ∧ mulO (invO o) o = oneO := by
  constructor
  · refine Op3.ext' (inv_r h.d) ?_
    show eqV 24 (addV (appZ o.R (modV 24 (negV (appZ (invZ o.R) o.T)))) o.T) (V3.mk 0 0 0)
    refine (eqV_add (eqV_app o.R (eqV_mod _ _)) (eqV.refl _ _)).trans ?_
    rw [app_neg, ← app_mul, inv_r h.d, app_one, addV_comm, addV_neg]
    exact eqV.refl _ _
  · refine Op3.ext' (inv_l h.d) ?_
    show eqV 24 (addV (appZ (invZ o.R) o.T) (modV 24 (negV (appZ (invZ o.R) o.T)))) (V3.mk 0 0 0)
    refine (eqV_add (eqV.refl _ _) (eqV_mod _ _)).trans ?_
    rw [addV_neg]
    exact eqV.refl _ _
/-- What undoes on either side is one. -/
theorem undo_unique {a b c : Op3} (hb : inT b.T = true) (hc : inT c.T = true) (h1 : mulO b a = oneO) (h2 : mulO a c = oneO) : b = c := by
  have := mulO_assoc b a c
  rw [h1, h2, (mulO_one hb).1, (mulO_one hc).2] at this
  exact this.symm
theorem invE_frm {o : Op3} (h : Frm o) : invE o = errM (invZ o.R) := by
  unfold invE; rw [if_pos h.err]
/-! ### Places -/
end Go.Fx
end
section
namespace Go.Fx
open Go

def opw (o : Op3) : Nat → Op3
  | 0 => oneO
  | k + 1 => mulO o (opw o k)
/-- The least power that moves nothing. -/
def isOrd (o : Op3) (n : Nat) : Prop := 1 ≤ n ∧ opw o n = oneO ∧ ∀ j, 1 ≤ j → j < n → opw o j ≠ oneO
/-! ### Told from elsewhere, undone -/
end Go.Fx
end
