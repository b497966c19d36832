/-
  Orders in Lean, as the code finds them.
-/
import Derived.Test.YthljaepanhdmiaaP
namespace Go.Fx
open Go

def ordMap : List (Int × Int) := [(3, 1), (2, 6), (1, 4), (0, 3), (-1, 2)]
def ordD (m : M3) : Int := selI (uniE m) (w64 (detZ m))
def ordT (m : M3) : Int := w64 (ordD m * w64 (w64 (m.xx + m.yy) + m.zz))
def ordB (m : M3) : Int := mgetD eqI ordMap (ordT m)
def ordN (m : M3) : Int := if ordD m < 0 then (if Int.tmod (ordB m) 2 = 1 then w64 (ordB m * 2) else ordB m) else ordB m
def ordHit (m : M3) (n k : Int) : Bool := decide (Int.tmod n k = 0) && powZ m k
/-- The least k from i on, below n, of which the power is the identity and that divides n; n, if there is none. -/
def ordK (m : M3) (n : Int) : Nat → Int → Int
  | 0, _ => n
  | f + 1, k => if k < n then (if ordHit m n k = true then k else ordK m n f (k + 1)) else n
def ordR (m : M3) : Int × Int :=
  if uniE m = 0 then (if mhas eqI ordMap (ordT m) = true then (if powZ m (ordN m) = true then (ordK m (ordN m) 6 1, 0) else (0, 9)) else (0, 9)) else (0, uniE m)
def ordZ (m : M3) : Int := (ordR m).1
def ordE (m : M3) : Int := (ordR m).2
def oInv (m : M3) (n k : Int) : Prop := 1 ≤ k ∧ k ≤ 7 ∧ ordK m n 6 1 = ordK m n (7 - k).toNat k
theorem ordB_in {m : M3} (h : mhas eqI ordMap (ordT m) = true) : 1 ≤ ordB m ∧ ordB m ≤ 6 ∧ ordB m ≠ 5 := by
  unfold ordB mgetD
  unfold mhas at h
  generalize ordT m = t at h ⊢
  simp only [ordMap, mfind, eqI, decide_eq_true_eq] at h ⊢
  by_cases e1 : (3 : Int) = t
  · rw [if_pos e1]; decide
  rw [if_neg e1] at h ⊢
  by_cases e2 : (2 : Int) = t
  · rw [if_pos e2]; decide
  rw [if_neg e2] at h ⊢
  by_cases e3 : (1 : Int) = t
  · rw [if_pos e3]; decide
  rw [if_neg e3] at h ⊢
  by_cases e4 : (0 : Int) = t
  · rw [if_pos e4]; decide
  rw [if_neg e4] at h ⊢
  by_cases e5 : (-1 : Int) = t
  · rw [if_pos e5]; decide
  rw [if_neg e5] at h
  cases h
theorem ordN_in {m : M3} (h : mhas eqI ordMap (ordT m) = true) : 1 ≤ ordN m ∧ ordN m ≤ 6 := by
  have hb := ordB_in h
  unfold ordN
  split
  · split
    · rename_i h2
      have : ordB m = 1 ∨ ordB m = 3 := by
        have h3 : ordB m = 1 ∨ ordB m = 2 ∨ ordB m = 3 ∨ ordB m = 4 ∨ ordB m = 6 := by omega
        rcases h3 with e | e | e | e | e <;> rw [e] at h2 <;> first | (exact .inl e) | (exact .inr e) | (exact absurd h2 (by decide))
      rcases this with e | e <;> rw [e] <;> decide
    · omega
  · omega
theorem ordTail {m : M3} {n : Int} (h1 : 1 ≤ n) (h6 : n ≤ 6) {r : Int × (Int × Unit)} (hr : r = if powZ m n = true then (ordK m n 6 1, (0, ())) else (0, (9, ()))) :
    True ∧ (((!powZ m n) = true → (0, (9, ())) = r) ∧ ((!powZ m n) = false →
      (oInv m n 1 ∧ ∀ z : Int, ((decide ((-9223372036854775808) ≤ z)) = true → ((decide (z ≤ 9223372036854775807)) = true → (oInv m n z →
        (((decide (z < n)) = true → ((z ≠ 0) ∧
          (((decide (Int.tmod n z = 0)) = true → (True ∧ ((powZ m z = true → (z, (0, ())) = r) ∧ (powZ m z = false → (oInv m n (w64 (z + 1)) ∧ ((decide (0 ≤ pMu n (w64 (z + 1)))) = true ∧ (decide (pMu n (w64 (z + 1)) < pMu n z)) = true)))))) ∧
           ((decide (Int.tmod n z = 0)) = false → (oInv m n (w64 (z + 1)) ∧ ((decide (0 ≤ pMu n (w64 (z + 1)))) = true ∧ (decide (pMu n (w64 (z + 1)) < pMu n z)) = true)))))) ∧
         ((decide (z < n)) = false → (n, (0, ())) = r))))))) ) := by
  refine ⟨trivial, fun h => ?_, fun h => ⟨⟨by omega, by omega, rfl⟩, fun z _ _ hI => ⟨fun hz => ?_, fun hz => ?_⟩⟩⟩
  · have : powZ m n = false := by cases e : powZ m n <;> simp_all
    rw [hr, this]; rfl
  · obtain ⟨i1, i2, i3⟩ := hI
    have hz := of_decide_eq_true hz
    have hp : powZ m n = true := by cases e : powZ m n <;> simp_all
    rw [if_pos hp] at hr
    have hw : w64 (z + 1) = z + 1 := w64_id (by omega) (by omega)
    have step : ∀ b, ordHit m n z = b → ordK m n (7 - z).toNat z = if b = true then z else ordK m n (7 - (z + 1)).toNat (z + 1) := fun b hb => by
      rw [show (7 - z).toNat = (7 - (z + 1)).toNat + 1 by omega, ordK, if_pos hz, hb]
    have next : ordHit m n z = false → (oInv m n (w64 (z + 1)) ∧ ((decide (0 ≤ pMu n (w64 (z + 1)))) = true ∧ (decide (pMu n (w64 (z + 1)) < pMu n z)) = true)) := fun hh => by
      rw [hw]
      refine ⟨⟨by omega, by omega, ?_⟩, decide_eq_true (by unfold pMu; omega), decide_eq_true (by unfold pMu; omega)⟩
      rw [i3, step _ hh]; rfl
    refine ⟨by omega, fun hd => ⟨trivial, fun hq => ?_, fun hq => next (by unfold ordHit; rw [hd, hq]; rfl)⟩, fun hd => next (by unfold ordHit; rw [hd]; rfl)⟩
    rw [hr, i3, step true (by unfold ordHit; rw [hd, hq]; rfl)]; rfl
  · obtain ⟨i1, i2, i3⟩ := hI
    have hz := of_decide_eq_false hz
    have hp : powZ m n = true := by cases e : powZ m n <;> simp_all
    rw [if_pos hp] at hr
    rw [hr, i3]
    cases e : (7 - z).toNat with
    | zero => rfl
    | succ k => rw [ordK, if_neg hz]
theorem ord_low {m : M3} (h : uniE m ≠ 0) : (0, (uniE m, ())) = (ordZ m, (ordE m, ())) := by
  unfold ordZ ordE ordR; rw [if_neg h]
theorem ord_none {m : M3} (h : uniE m = 0) (h2 : mhas eqI ordMap (ordT m) = false) : (0, (9, ())) = (ordZ m, (ordE m, ())) := by
  unfold ordZ ordE ordR; rw [if_pos h, if_neg (by rw [h2]; decide)]
theorem ord_some {m : M3} (h : uniE m = 0) (h2 : mhas eqI ordMap (ordT m) = true) {n : Int} (hn : n = ordN m) : ((ordZ m, (ordE m, ())) : Int × (Int × Unit)) = if powZ m n = true then (ordK m n 6 1, (0, ())) else (0, (9, ())) := by
  subst hn
  unfold ordZ ordE ordR; rw [if_pos h, if_pos h2]
  split <;> rfl
/-! ### One order of rows of numbers -/
def lexL : List Int → List Int → Int
  | x :: r, y :: s => cmpE x y (lexL r s)
  | _, _ => 0
theorem lexL_range : ∀ (a b : List Int), lexL a b = -1 ∨ lexL a b = 0 ∨ lexL a b = 1
  | [], _ => .inr (.inl rfl)
  | _ :: _, [] => .inr (.inl rfl)
  | x :: r, y :: s => by
    have := lexL_range r s
    simp only [lexL, cmpE]
    split
    · exact .inl rfl
    · split
      · exact .inr (.inr rfl)
      · exact this
theorem lexL_anti : ∀ (a b : List Int), lexL b a = -lexL a b
  | [], [] => rfl
  | [], _ :: _ => rfl
  | _ :: _, [] => rfl
  | x :: r, y :: s => by
    have := lexL_anti r s
    simp only [lexL, cmpE]
    by_cases h1 : x < y
    · rw [if_neg (by omega), if_pos h1, if_pos h1]; rfl
    · by_cases h2 : y < x
      · rw [if_pos h2, if_neg h1, if_pos h2]
      · rw [if_neg h1, if_neg h2, if_neg h2, if_neg h1, this]
theorem lexL_zero : ∀ {a b : List Int}, a.length = b.length → (lexL a b = 0 ↔ a = b)
  | [], [], _ => ⟨fun _ => rfl, fun _ => rfl⟩
  | x :: r, y :: s, h => by
    have := lexL_zero (a := r) (b := s) (by simpa using h)
    simp only [lexL, cmpE, List.cons.injEq]
    by_cases h1 : x < y
    · rw [if_pos h1]; exact ⟨fun h => absurd h (by decide), fun h => absurd h.1 (by omega)⟩
    · by_cases h2 : y < x
      · rw [if_neg h1, if_pos h2]; exact ⟨fun h => absurd h (by decide), fun h => absurd h.1 (by omega)⟩
      · rw [if_neg h1, if_neg h2, this]; exact ⟨fun h => ⟨by omega, h⟩, fun h => h.2⟩
theorem lexL_trans : ∀ {a b c : List Int}, a.length = b.length → b.length = c.length → (lexL a b ≤ 0 → lexL b c ≤ 0 → lexL a c ≤ 0) ∧ (lexL a b < 0 → lexL b c ≤ 0 → lexL a c < 0) ∧ (lexL a b ≤ 0 → lexL b c < 0 → lexL a c < 0)
  | [], [], [], _, _ => ⟨fun _ _ => Int.le_refl _, fun h _ => absurd h (by decide), fun _ h => absurd h (by decide)⟩
  | x :: r, y :: s, z :: t, h1, h2 => by
    obtain ⟨q1, q2, q3⟩ := lexL_trans (a := r) (b := s) (c := t) (by simpa using h1) (by simpa using h2)
    simp only [lexL, cmpE]
    by_cases a1 : x < y <;> by_cases a2 : y < x <;> by_cases b1 : y < z <;> by_cases b2 : z < y <;> by_cases c1 : x < z <;> by_cases c2 : z < x <;> simp only [a1, a2, b1, b2, c1, c2, if_true, if_false] <;> first | (exact ⟨by omega, by omega, by omega⟩) | (exact ⟨q1, q2, q3⟩)
def M3.row (m : M3) : List Int := [m.xx, m.xy, m.xz, m.yx, m.yy, m.yz, m.zx, m.zy, m.zz]
theorem cmpM_lex (a b : M3) : cmpM a b = lexL a.row b.row := rfl
theorem cmpM_self (a : M3) : cmpM a a = 0 := by rw [cmpM_lex]; exact (lexL_zero (a := a.row) (b := a.row) rfl).2 rfl
theorem cmpM_anti (a b : M3) : cmpM b a = -cmpM a b := by rw [cmpM_lex, cmpM_lex]; exact lexL_anti _ _
theorem row_inj {a b : M3} (h : a.row = b.row) : a = b := by
  cases a; cases b; simp only [M3.row, List.cons.injEq, and_true] at h; simp only [M3.mk.injEq]; exact h
theorem eqM_iff {a b : M3} : eqM a b = true ↔ a = b := by
  cases a; cases b; simp [eqM]
theorem eqM_cmp (a b : M3) : (decide (cmpM a b = 0)) = eqM a b := by
  rw [Bool.eq_iff_iff, decide_eq_true_iff, eqM_iff, cmpM_lex, lexL_zero (a := a.row) (b := b.row) rfl]
  exact ⟨row_inj, fun h => by rw [h]⟩
theorem no_not {b : Bool} (h : (!b) = true) : b = false := by cases b <;> first | rfl | cases h
theorem ye_not {b : Bool} (h : (!b) = false) : b = true := by cases b <;> first | rfl | cases h
/-! ### More of layer 1 -/
def scaZ (n : Int) (m : M3) : M3 := M3.mk (m.xx * n) (m.xy * n) (m.xz * n) (m.yx * n) (m.yy * n) (m.yz * n) (m.zx * n) (m.zy * n) (m.zz * n)
def inK1000 (k : Int) : Prop := 0 ≤ k ∧ k ≤ 1000
def tamM (k : Int) (m : M3) : M3 := M3.mk (Int.tmod m.xx (k + 1)) (Int.tmod m.xy (k + 1)) (Int.tmod m.xz (k + 1)) (Int.tmod m.yx (k + 1)) (Int.tmod m.yy (k + 1)) (Int.tmod m.yz (k + 1)) (Int.tmod m.zx (k + 1)) (Int.tmod m.zy (k + 1)) (Int.tmod m.zz (k + 1))
def rordC (t s d : Int) : Int :=
  if t = 0 ∧ s = 0 ∧ d = 1 then 3
  else if (t = 1 ∧ s = 1 ∧ d = 1) ∨ (t = -1 ∧ s = 1 ∧ d = -1) then 4
  else if (t = 0 ∧ s = 0 ∧ d = -1) ∨ (t = 2 ∧ s = 2 ∧ d = 1) ∨ (t = -2 ∧ s = 2 ∧ d = -1) then 6
  else 0
def rordZ (m : M3) : Int :=
  if eqM m (oneZ 1) = true then 1 else if eqM (wM (mulZ m m)) (oneZ 1) = true then 2 else rordC (w64 (trcZ m)) (w64 (trcZ (wM (adjZ m)))) (w64 (detZ m))
def docO (m : M3) : Int := if uniE m = 0 then rordZ m else 0
def docE (m : M3) : Int := if uniE m = 0 then (if rordZ m = 0 then 9 else 0) else uniE m
end Go.Fx
