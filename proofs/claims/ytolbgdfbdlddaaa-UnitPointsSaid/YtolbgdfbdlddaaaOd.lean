/-
  Layer 9 in Lean: what the orbit's and the document's loops do.
-/
import Derived.Test.YtolbgdfbdlddaaaOc
set_option linter.unusedSimpArgs false
set_option linter.unusedVariables false
set_option linter.unusedSectionVars false
namespace Go.Fx
open Go
def apPre (o : Op3) (p : Pt) : Prop := errO o = 0 ∧ frmP p = true
def dcE (g : List Op3) (l : List Pt) : Int := if ocE g l = 0 then (if (l.getD 0 zerP).M = (l.getD ((l.length : Int) - 1).toNat zerP).M then 0 else 6) else ocE g l
def dcP (l : List Pt) : Prop := 0 < (l.length : Int)
def siJ (g : List Op3) (p : Pt) (s : List Int) (i : Int) : Prop := siInv (imP g p) p s i
def ftI (g : List Op3) (p x : Pt) (i : Int) : Prop := idP (imP g p) x i
def conX (l : List Pt) (x : Pt) : Bool := decide (0 ≤ idxX l x)
theorem conX_iff (l : List Pt) (x : Pt) : conX l x = decide (x ∈ l) := by
  unfold conX
  have := idxD_neg (l := l) (x := x)
  by_cases h : x ∈ l
  · rw [decide_eq_true h, decide_eq_true]
    show 0 ≤ idxD l x
    have h2 : ¬ idxD l x < 0 := fun c => this.1 c h
    omega
  · rw [decide_eq_false h, decide_eq_false]
    show ¬ 0 ≤ idxD l x
    have h2 : idxD l x < 0 := this.2 h
    omega
theorem frm_sca {p : Pt} (h : frmP p = true) : p.M ≠ 0 ∧ w64 (p.X.x * Int.tdiv 192 p.M) = 192 / p.M * p.X.x ∧ w64 (p.X.y * Int.tdiv 192 p.M) = 192 / p.M * p.X.y ∧ w64 (p.X.z * Int.tdiv 192 p.M) = 192 / p.M * p.X.z := by
  obtain ⟨q0, q1, q2, q3⟩ := frmP_iff.1 h
  have key : ∀ x : Int, 0 ≤ x → x < p.M → w64 (x * Int.tdiv 192 p.M) = 192 / p.M * x := fun x x1 x2 => by
    have q : Int.tdiv 192 24 = 8 ∧ Int.tdiv 192 48 = 4 ∧ Int.tdiv 192 96 = 2 ∧ Int.tdiv 192 192 = 1 := by decide
    have d : (192 : Int) / 24 = 8 ∧ (192 : Int) / 48 = 4 ∧ (192 : Int) / 96 = 2 ∧ (192 : Int) / 192 = 1 := by decide
    rcases q0 with h | h | h | h <;> rw [h]
    · rw [q.1, d.1, w64_id (by omega) (by omega)]; omega
    · rw [q.2.1, d.2.1, w64_id (by omega) (by omega)]; omega
    · rw [q.2.2.1, d.2.2.1, w64_id (by omega) (by omega)]; omega
    · rw [q.2.2.2, d.2.2.2, w64_id (by omega) (by omega)]; omega
  exact ⟨by omega, key _ q1.1 q1.2, key _ q2.1 q2.2, key _ q3.1 q3.2⟩
theorem mulB1 {a x : Int} (a1 : -1000 ≤ a) (a2 : a ≤ 1000) (x1 : -192 ≤ x) (x2 : x ≤ 192) : -576000 ≤ a * x ∧ a * x ≤ 576000 := by
  have := dotB (a := a) (b := 0) (c := 0) (x := x) (y := 0) (z := 0) 1000 192 ⟨a1, a2⟩ ⟨by omega, by omega⟩ ⟨by omega, by omega⟩ ⟨x1, x2⟩ ⟨by omega, by omega⟩ ⟨by omega, by omega⟩
  simp only [Int.zero_mul, Int.add_zero, Int.mul_zero] at this
  omega
theorem cmpE_ne {a b z : Int} (h : cmpE a b 0 ≠ 0) : cmpE a b z = cmpE a b 0 := by
  unfold cmpE at *
  split
  · rfl
  · split
    · rfl
    · rename_i h1 h2; rw [if_neg h1, if_neg h2] at h; exact absurd rfl h
theorem cmpE_eq {a b z : Int} (h : cmpE a b 0 = 0) : cmpE a b z = z := by
  unfold cmpE at *
  split at h
  · cases h
  · rename_i h1
    split at h
    · cases h
    · rename_i h2; rw [if_neg h1, if_neg h2]
theorem lex3 (x x' y y' z z' : Int) : (cmpE x x' 0 ≠ 0 → cmpE x x' (cmpE y y' (cmpE z z' 0)) = cmpE x x' 0) ∧ (cmpE x x' 0 = 0 → cmpE y y' 0 ≠ 0 → cmpE x x' (cmpE y y' (cmpE z z' 0)) = cmpE y y' 0) ∧ (cmpE x x' 0 = 0 → cmpE y y' 0 = 0 → cmpE x x' (cmpE y y' (cmpE z z' 0)) = cmpE z z' 0) :=
  ⟨fun h => cmpE_ne h, fun h1 h2 => (cmpE_eq h1).trans (cmpE_ne h2), fun h1 h2 => (cmpE_eq h1).trans (cmpE_eq h2)⟩
theorem oc_next {g : List Op3} {l : List Pt} {i e : Int} (h : ocInv g l i e) (hi : i < (l.length : Int)) : ocInv g l (i + 1) (if frmP (l.getD i.toNat zerP) = true then e else if e = 0 ∨ 3 < e then 3 else e) := by
  obtain ⟨h1, h2, h3⟩ := h
  refine ⟨by omega, by omega, ?_⟩
  rw [take_succ h1 hi zerP, oc_snoc, h3]
theorem oc_le (g : List Op3) (l : List Pt) : 0 ≤ ocE g l ∧ ocE g l ≤ 5 := by
  unfold ocE
  rcases chk_vals g with k | k | k | k | k <;> rw [k] <;> split <;> (try split) <;> omega
theorem dc_one (g : List Op3) (p : Pt) : dcE g [p] = ocE g [p] := by
  unfold dcE
  rw [if_pos (show (([p] : List Pt).getD 0 zerP).M = (([p] : List Pt).getD ((([p] : List Pt).length : Int) - 1).toNat zerP).M from rfl)]
  split
  · rename_i h; exact h.symm
  · rfl
theorem dc_two (g : List Op3) (p q : Pt) : dcE g [p, q] = saE g p q := rfl
theorem si_next {l : List Pt} {x : Pt} {s : List Int} {i : Int} (h : siInv l x s i) (hi : i < (l.length : Int)) : siInv l x (if l.getD i.toNat zerP = x then s ++ [i] else s) (i + 1) := by
  obtain ⟨h1, h2, h3⟩ := h
  refine ⟨by omega, by omega, ?_⟩
  have e : (i + 1).toNat = i.toNat + 1 := by omega
  rw [e, plcX_snoc, h3]
  have e2 : ((i.toNat : Nat) : Int) = i := by omega
  rw [e2]
theorem si_lenI {l : List Pt} {x : Pt} {s : List Int} {i : Int} (h : siInv l x s i) : (s.length : Int) ≤ i := by
  obtain ⟨h1, h2, h3⟩ := h
  have := plcX_len l x i.toNat
  rw [h3]; omega
theorem mn_init {l : List Pt} (h : 0 < (l.length : Int)) : mnInv l (l.getD 0 zerP) 1 := by
  refine ⟨Int.le_refl _, by omega, ?_⟩
  match l, h with
  | x :: r, _ => rfl
theorem dof_lenI {g : List Op3} {p : Pt} {l : List Pt} {i : Int} (h : dofI g p l i) (hg : g.length ≤ 192) : l.length ≤ 192 ∧ (l.length : Int) ≤ i := by
  obtain ⟨h1, h2, h3⟩ := h
  have := dof_len (g.take i.toNat) p
  rw [← h3, List.length_take] at this
  omega
theorem dof_next {g : List Op3} {p : Pt} {l : List Pt} {i : Int} (h : dofI g p l i) (hi : i < (g.length : Int)) : dofI g p (putX l (appX (g.getD i.toNat zerO) p)) (i + 1) := by
  obtain ⟨h1, h2, h3⟩ := h
  refine ⟨by omega, by omega, ?_⟩
  rw [take_succ h1 hi zerO, dof_snoc, h3]
theorem doa_put {l : List Pt} {q : Pt} {j : Int} (h : doaI l q j) (hs : j < (l.length : Int) → ¬ cmpV (l.getD j.toNat zerP).X q.X < 0) :
    putX l q = if j < (l.length : Int) ∧ l.getD j.toNat zerP = q then l else lapp (lapp (lapp [] (lsub l 0 j)) [q]) (lsub l j ((l.length : Int) - j)) := by
  obtain ⟨h1, h2, h3⟩ := h
  rw [putX_at (n := j.toNat) (by omega) h3 fun c => hs (by omega)]
  have e : (j.toNat < l.length ∧ l.getD j.toNat zerP = q) ↔ (j < (l.length : Int) ∧ l.getD j.toNat zerP = q) := ⟨fun c => ⟨by omega, c.2⟩, fun c => ⟨by omega, c.2⟩⟩
  by_cases c : j < (l.length : Int) ∧ l.getD j.toNat zerP = q
  · rw [if_pos c, if_pos (e.2 c)]
  · rw [if_neg c, if_neg fun d => c (e.1 d)]
    unfold lapp lsub
    rw [List.nil_append, show (0 : Int).toNat = 0 from rfl, List.drop_zero, List.take_of_length_le (l := l.drop j.toNat) (by rw [List.length_drop]; omega)]
end Go.Fx
