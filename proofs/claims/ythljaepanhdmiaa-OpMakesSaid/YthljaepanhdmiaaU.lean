/-
  Places, powers and orders of maps, in Lean.
-/
import Derived.Test.YthljaepanhdmiaaO
namespace Go.Fx
open Go

def inM (m : Int) : Prop := 1 ≤ m ∧ m ≤ 1000000
theorem fmod_eq {n m : Int} (hm : inM m) : w64 (Int.tmod n m + m) = Int.tmod n m + m ∧ Int.tmod (Int.tmod n m + m) m = n % m ∧ m ≠ 0 := by
  obtain ⟨h1, h2⟩ := hm
  have hr : (n.tmod m).natAbs < m.natAbs := by rw [Int.natAbs_tmod]; exact Nat.mod_lt _ (by omega)
  refine ⟨w64_id (by omega) (by omega), ?_, by omega⟩
  rw [Int.tmod_eq_emod_of_nonneg (by omega)]
  have := resP_mod m n
  unfold resP at this
  rwa [Int.emod_emod_of_dvd _ (Int.dvd_refl m)] at this
def timT (n : Int) (a : V3) : V3 := V3.mk (n * a.x % 24) (n * a.y % 24) (n * a.z % 24)
def rgtM (m : Int) : Bool := decide (m = 24) || (decide (m = 48) || (decide (m = 96) || decide (m = 192)))
def inX (m x : Int) : Bool := decide (0 ≤ x) && decide (x < m)
def frmP (p : Pt) : Bool := rgtM p.M && (inX p.M p.X.x && (inX p.M p.X.y && inX p.M p.X.z))
def zerP : Pt := Pt.mk 0 (V3.mk 0 0 0)
def selP (e : Int) (p : Pt) : Pt := if e = 0 then p else zerP
def plaE (m : Int) : Int := if rgtM m = true then 0 else 1
def plaP (m : Int) (v : V3) : Pt := if rgtM m = true then Pt.mk m (modV m v) else zerP
def scaV (n : Int) (v : V3) : V3 := V3.mk (n * v.x) (n * v.y) (n * v.z)
def shfX (p : Pt) (t : V3) : Pt := Pt.mk p.M (modV p.M (addV p.X (scaV (p.M / 24) t)))
def shfE (p : Pt) : Int := if frmP p = true then 0 else 3
def shfP (p : Pt) (t : V3) : Pt := if frmP p = true then shfX p t else zerP
theorem rgt_iff {m : Int} : rgtM m = true ↔ m = 24 ∨ m = 48 ∨ m = 96 ∨ m = 192 := by simp [rgtM]
theorem rgt_in {m : Int} (h : rgtM m = true) : inM m := by
  rcases rgt_iff.1 h with rfl | rfl | rfl | rfl <;> exact ⟨by decide, by decide⟩
theorem frmP_iff {p : Pt} : frmP p = true ↔ (p.M = 24 ∨ p.M = 48 ∨ p.M = 96 ∨ p.M = 192) ∧ (0 ≤ p.X.x ∧ p.X.x < p.M) ∧ (0 ≤ p.X.y ∧ p.X.y < p.M) ∧ (0 ≤ p.X.z ∧ p.X.z < p.M) := by
  simp only [frmP, Bool.and_eq_true, rgt_iff, inX, decide_eq_true_eq]
/-- Where a map sends a place. -/
def appX (o : Op3) (p : Pt) : Pt := Pt.mk p.M (modV p.M (addV (appZ o.R p.X) (scaV (p.M / 24) o.T)))
def appE (o : Op3) (p : Pt) : Int := if frmP p = true then errO o else 3
def appP (o : Op3) (p : Pt) : Pt := if appE o p = 0 then appX o p else zerP
def cmpV (a b : V3) : Int := cmpE a.x b.x (cmpE a.y b.y (cmpE a.z b.z 0))
def cmpO (a b : Op3) : Int := if cmpM a.R b.R = 0 then cmpV a.T b.T else cmpM a.R b.R
/-! ### Powers -/
def goL (o : Op3) : Nat → Op3 × Int → Op3 × Int
  | 0, s => s
  | k + 1, s => if s.2 = 0 then goL o k (selO (errM (mulO o s.1).R) (mulO o s.1), errM (mulO o s.1).R) else s
def powB (o : Op3) (n : Int) : Op3 := if errO o = 0 ∧ n < 0 then selO (invE o) (invO o) else o
def powF (o : Op3) (n : Int) : Int := if errO o = 0 then (if n < 0 then invE o else 0) else errO o
def powS (o : Op3) (n : Int) : Op3 × Int := goL (powB o n) n.natAbs (oneO, powF o n)
def powA (o : Op3) (n : Int) : Op3 × Int := if n < -1000 ∨ n > 1000 then (zerO, 1) else (selO (powS o n).2 (powS o n).1, (powS o n).2)
def powO (o : Op3) (n : Int) : Op3 := (powA o n).1
def powE (o : Op3) (n : Int) : Int := (powA o n).2
theorem goL_err {o p : Op3} {e : Int} (h : e ≠ 0) : ∀ k, goL o k (p, e) = (p, e)
  | 0 => rfl
  | k + 1 => by unfold goL; rw [if_neg h]
/-- A map's parts are small enough. -/
def sml (o : Op3) : Prop := errM o.R = 0 ∧ inT o.T = true
def pwInv (o : Op3) (n : Int) (w : Op3) (k e : Int) (p : Op3) : Prop :=
  w = powB o n ∧ (e = 0 → 0 ≤ k ∧ k ≤ 1000 ∧ sml w ∧ sml p) ∧ goL w k.toNat (p, e) = powS o n
def dpInv (o : Op3) (n : Int) (w : Op3) (k : Int) (p : Op3) : Prop :=
  w = powB o n ∧ 0 ≤ k ∧ k ≤ 1000 ∧ sml w ∧ sml p ∧ goL w k.toNat (p, 0) = powS o n
def pwMu (k : Int) : Int := k
/-! ### Orders -/
def sumT (o : Op3) : Nat → V3
  | 0 => V3.mk 0 0 0
  | k + 1 => addT (shiT o.R (sumT o k)) o.T
def zerV (v : V3) : Bool := decide (v.x = 0) && (decide (v.y = 0) && (decide (v.z = 0) && true))
/-- The least n from n on, at most f more, of which n t is nothing. -/
def lstT (t : V3) : Nat → Int → Int
  | 0, n => n
  | f + 1, n => if zerV (timT n t) = true then n else lstT t f (n + 1)
def oroE (o : Op3) : Int := if errO o = 0 then ordE o.R else errO o
def oroZ (o : Op3) : Int := if oroE o = 0 then ordZ o.R * lstT (sumT o (ordZ o.R).toNat) 24 1 else 0
def kinE (o : Op3) : Int := if errO o = 0 then ordE (scaZ (detZ o.R) o.R) else errO o
def kinZ (o : Op3) : Int := if kinE o = 0 then detZ o.R * ordZ (scaZ (detZ o.R) o.R) else 0
def soInv (o : Op3) (n k : Int) (t : V3) : Prop := 0 ≤ k ∧ (k ≤ n ∨ k = 0) ∧ t = sumT o k.toNat
def lsInv (t : V3) (n : Int) : Prop := 1 ≤ n ∧ n ≤ 24 ∧ lstT t 24 1 = lstT t (25 - n).toNat n
def atT (o : Op3) : Nat → V3
  | 0 => o.T
  | k + 1 => modV 24 (appZ o.R (atT o k))
def doInv (o : Op3) (n k : Int) (s t : V3) : Prop := 0 ≤ k ∧ (k ≤ n ∨ k = 0) ∧ s = sumT o k.toNat ∧ t = atT o k.toNat
end Go.Fx
