/-
  Layer 5 in Lean: lists of maps, their places, what a group is.
-/
import Derived.Test.YtcadkndjcneedaaGreatKq
set_option linter.unusedSimpArgs false
set_option linter.unusedVariables false
set_option linter.unusedSectionVars false
namespace Go.Fx
open Go

/-! ### Maps are told apart -/
theorem eqO_iff {a b : Op3} : eqO a b = true ↔ a = b := by
  refine Iff.trans decide_eq_true_iff ⟨fun h => ?_, fun h => by rw [h]⟩
  have : Fl.op.dec (Fl.op.enc a) = Fl.op.dec (Fl.op.enc b) := by rw [h]
  exact this
instance : DecidableEq Op3 := fun a b => decidable_of_iff (eqO a b = true) eqO_iff
def memO (l : List Op3) (o : Op3) : Bool := l.any fun x => eqO x o
theorem memO_iff {l : List Op3} {o : Op3} : memO l o = true ↔ o ∈ l := by
  unfold memO
  rw [List.any_eq_true]
  exact ⟨fun ⟨x, h1, h2⟩ => by rw [← eqO_iff.1 h2]; exact h1, fun h => ⟨o, h, eqO_iff.2 rfl⟩⟩
/-- Twelve numbers that are one. -/
theorem eqOc' (a b : Op3) : ((decide (a.R.xx = b.R.xx)) && ((decide (a.R.xy = b.R.xy)) && ((decide (a.R.xz = b.R.xz)) && ((decide (a.R.yx = b.R.yx)) && ((decide (a.R.yy = b.R.yy)) && ((decide (a.R.yz = b.R.yz)) && ((decide (a.R.zx = b.R.zx)) && ((decide (a.R.zy = b.R.zy)) && ((decide (a.R.zz = b.R.zz)) && ((decide (a.T.x = b.T.x)) && ((decide (a.T.y = b.T.y)) && ((decide (a.T.z = b.T.z)) && true)))))))))))) = decide (a = b) := by
  obtain ⟨⟨a1, a2, a3, a4, a5, a6, a7, a8, a9⟩, ⟨b1, b2, b3⟩⟩ := a
  obtain ⟨⟨c1, c2, c3, c4, c5, c6, c7, c8, c9⟩, ⟨d1, d2, d3⟩⟩ := b
  rw [Bool.eq_iff_iff]
  simp only [Bool.and_eq_true, decide_eq_true_eq, Bool.and_true, Op3.mk.injEq, M3.mk.injEq, V3.mk.injEq]
  constructor
  · rintro ⟨h1, h2, h3, h4, h5, h6, h7, h8, h9, h10, h11, h12⟩
    exact ⟨⟨h1, h2, h3, h4, h5, h6, h7, h8, h9⟩, h10, h11, h12⟩
  · rintro ⟨⟨h1, h2, h3, h4, h5, h6, h7, h8, h9⟩, h10, h11, h12⟩
    exact ⟨h1, h2, h3, h4, h5, h6, h7, h8, h9, h10, h11, h12⟩
/-! ### Maps keyed by maps -/
theorem mfind_set {α : Type} [DecidableEq α] {eq : α → α → Bool} (he : ∀ a b, eq a b = true ↔ a = b) (x : α) (v : Int) : ∀ (m : List (α × Int)) (p : α), mfind eq (mset eq m x v) p = if x = p then some v else mfind eq m p
  | [], p => by
    by_cases h : x = p
    · subst h; simp [mset, mfind, (he x x).2 rfl]
    · have : ¬ eq x p = true := fun e => h ((he _ _).1 e)
      simp [mset, mfind, this, h]
  | q :: r, p => by
    unfold mset
    by_cases hq : eq q.1 x = true
    · rw [if_pos hq]
      have e := (he _ _).1 hq
      unfold mfind
      by_cases h : x = p
      · subst h; simp [(he x x).2 rfl]
      · have h1 : ¬ eq x p = true := fun e => h ((he _ _).1 e)
        have h2 : ¬ eq q.1 p = true := fun e' => h (by rw [← e]; exact (he _ _).1 e')
        simp [h1, h2, h]
    · rw [if_neg hq]
      unfold mfind
      by_cases h3 : eq q.1 p = true
      · have e := (he _ _).1 h3
        have : ¬ x = p := fun e' => hq ((he _ _).2 (e.trans e'.symm))
        simp [h3, this]
      · simp only [if_neg h3]
        exact mfind_set he x v r p
theorem mhas_set (m : List (Op3 × Int)) (x : Op3) (v : Int) (p : Op3) : mhas eqO (mset eqO m x v) p = (decide (x = p) || mhas eqO m p) := by
  unfold mhas
  rw [mfind_set (fun _ _ => eqO_iff)]
  by_cases h : x = p <;> simp [h]
theorem mget_set (m : List (Op3 × Int)) (x : Op3) (v : Int) (p : Op3) : mgetD eqO (mset eqO m x v) p = if x = p then v else mgetD eqO m p := by
  unfold mgetD
  rw [mfind_set (fun _ _ => eqO_iff)]
  by_cases h : x = p <;> simp [h]

/-! ### Places -/
section
variable {α : Type} [DecidableEq α]
def idxD : List α → α → Int
  | [], _ => -1
  | y :: r, x => if y = x then 0 else if idxD r x < 0 then -1 else idxD r x + 1
theorem idxD_range : ∀ (l : List α) (x : α), (idxD l x = -1 ∧ x ∉ l) ∨ (0 ≤ idxD l x ∧ idxD l x < l.length ∧ l[(idxD l x).toNat]? = some x)
  | [], x => .inl ⟨rfl, by simp⟩
  | y :: r, x => by
    unfold idxD
    by_cases h : y = x
    · rw [if_pos h]
      exact .inr ⟨by omega, by simp only [List.length_cons]; omega, by simp [h]⟩
    · rw [if_neg h]
      rcases idxD_range r x with ⟨h1, h2⟩ | ⟨h1, h2, h3⟩
      · rw [if_pos (by omega)]
        exact .inl ⟨rfl, fun hm => by rcases List.mem_cons.1 hm with e | e; exact h e.symm; exact h2 e⟩
      · rw [if_neg (by omega)]
        refine .inr ⟨by omega, by simp; omega, ?_⟩
        rw [show (idxD r x + 1).toNat = (idxD r x).toNat + 1 by omega]
        simpa using h3
theorem idxD_first : ∀ (l : List α) (x : α) (k : Nat), l[k]? = some x → idxD l x ≤ k
  | [], x, k, h => by simp at h
  | y :: r, x, k, h => by
    unfold idxD
    by_cases e : y = x
    · rw [if_pos e]; omega
    · rw [if_neg e]
      cases k with
      | zero => simp at h; exact absurd h e
      | succ k =>
        have := idxD_first r x k (by simpa using h)
        split <;> omega
theorem idxD_none {l : List α} {x : α} (h : x ∉ l) : idxD l x = -1 := by
  rcases idxD_range l x with h1 | ⟨_, _, h3⟩
  · exact h1.1
  · exact absurd (List.mem_of_getElem? h3) h
theorem idxD_at {l : List α} {x : α} {i : Nat} (h : l[i]? = some x) (hk : ∀ k, k < i → l[k]? ≠ some x) : idxD l x = i := by
  have h1 := idxD_first l x i h
  rcases idxD_range l x with h2 | ⟨h2, _, h3⟩
  · exact absurd (List.mem_of_getElem? h) h2.2
  · by_cases h4 : (idxD l x).toNat < i
    · exact absurd h3 (hk _ h4)
    · omega
theorem idxD_mem {l : List α} {x : α} (h : x ∈ l) : 0 ≤ idxD l x ∧ idxD l x < l.length ∧ l[(idxD l x).toNat]? = some x := by
  rcases idxD_range l x with h1 | h1
  · exact absurd h h1.2
  · exact h1
theorem idxD_neg {l : List α} {x : α} : idxD l x < 0 ↔ x ∉ l := by
  rcases idxD_range l x with ⟨h1, h2⟩ | ⟨h1, _, h3⟩
  · exact ⟨fun _ => h2, fun _ => by omega⟩
  · exact ⟨fun h => by omega, fun h => absurd (List.mem_of_getElem? h3) h⟩
def idP (l : List α) (x : α) (i : Int) : Prop := 0 ≤ i ∧ i ≤ (l.length : Int) ∧ ∀ k, k < i.toNat → l[k]? ≠ some x
omit [DecidableEq α] in
theorem getD_get {l : List α} {i : Int} (h0 : 0 ≤ i) (h1 : i < (l.length : Int)) (d : α) : l[i.toNat]? = some (l.getD i.toNat d) := by
  have : i.toNat < l.length := by omega
  simp [List.getD, this]
theorem w64_succ {i n : Int} (h0 : 0 ≤ i) (h1 : i < n) (hn : n ≤ 9223372036854775807) : w64 (i + 1) = i + 1 := w64_id (by omega) (by omega)
theorem id_next {l : List α} {x : α} {i : Int} {b : Nat} (hb : 0 < b) (hl : l.length * b ≤ room) (h : idP l x i) (hi : i < (l.length : Int)) (d : α) (hx : ¬ l.getD i.toNat d = x) : idP l x (w64 (i + 1)) ∧ 0 ≤ (l.length : Int) - w64 (i + 1) ∧ (l.length : Int) - w64 (i + 1) < (l.length : Int) - i := by
  have hn : (l.length : Int) ≤ 9223372036854775807 := by
    have : l.length ≤ l.length * b := Nat.le_mul_of_pos_right _ hb
    unfold room at hl; omega
  rw [w64_succ h.1 hi hn]
  refine ⟨⟨by have := h.1; omega, by omega, fun k hk => ?_⟩, by omega, by omega⟩
  rcases Nat.lt_or_ge k i.toNat with h1 | h1
  · exact h.2.2 k h1
  · have : k = i.toNat := by have := h.1; omega
    subst this
    rw [getD_get h.1 hi d]
    exact fun e => hx (Option.some.inj e)
theorem id_hit {l : List α} {x : α} {i : Int} (h : idP l x i) (hi : i < (l.length : Int)) (d : α) (hx : l.getD i.toNat d = x) : idxD l x = i := by
  rw [idxD_at (by rw [getD_get h.1 hi d, hx]) h.2.2]
  have := h.1; omega
theorem id_miss {l : List α} {x : α} {i : Int} (h : idP l x i) (hi : ¬ i < (l.length : Int)) : idxD l x = -1 := idxD_none fun hm => by
  obtain ⟨k, hk⟩ := List.getElem?_of_mem hm
  have hlt := (List.getElem?_eq_some_iff.1 hk).1
  exact h.2.2 k (by have := h.1; omega) hk
end
def idxO (g : List Op3) (o : Op3) : Int := idxD g o
def idxI (l : List Int) (x : Int) : Int := idxD l x
def idInv (g : List Op3) (o : Op3) (i : Int) : Prop := idP g o i
def idIn (l : List Int) (x i : Int) : Prop := idP l x i
def inMu (l : List Int) (i : Int) : Int := (l.length : Int) - i
def liMu (l : List (List Int)) (i : Int) : Int := (l.length : Int) - i

/-! ### What a group is -/
def gE (l : List Op3) : Int := if 192 < (l.length : Int) then 2 else errL l
def stB : List Op3 → Bool
  | a :: b :: r => decide (cmpO a b < 0) && stB (b :: r)
  | _ => true
def clsB (g : List Op3) : Bool := g.all fun a => g.all fun b => memO g (mulO a b)
def grpB (g : List Op3) : Bool := stB g && (memO g oneO && clsB g)
def chkE (g : List Op3) : Int := if gE g = 0 then (if grpB g = true then 0 else 5) else gE g
def stP (g : List Op3) (n : Nat) : Prop := ∀ k, k + 1 < n → cmpO (g.getD k zerO) (g.getD (k + 1) zerO) < 0
theorem stB_iff : ∀ {g : List Op3}, stB g = true ↔ stP g g.length
  | [] => ⟨fun _ k hk => by simp at hk, fun _ => rfl⟩
  | [a] => ⟨fun _ k hk => by simp at hk, fun _ => rfl⟩
  | a :: b :: r => by
    rw [stB, Bool.and_eq_true, decide_eq_true_eq, stB_iff (g := b :: r)]
    constructor
    · rintro ⟨h1, h2⟩ k hk
      cases k with
      | zero => exact h1
      | succ k =>
        have := h2 k (by simp at hk ⊢; omega)
        simpa using this
    · intro h
      refine ⟨by simpa using h 0 (by simp), fun k hk => ?_⟩
      have := h (k + 1) (by simp at hk ⊢; omega)
      simpa using this
theorem clsB_iff {g : List Op3} : clsB g = true ↔ ∀ a ∈ g, ∀ b ∈ g, mulO a b ∈ g := by
  unfold clsB
  simp only [List.all_eq_true, memO_iff]
def stInv (g : List Op3) (i : Int) : Prop := 1 ≤ i ∧ (i ≤ (g.length : Int) ∨ i = 1) ∧ stP g i.toNat
def cgP (g : List Op3) (a b : Op3) : Prop := mulE a b = 0 ∧ mulO a b ∈ g
def cgInv (g : List Op3) (i : Int) : Prop := 0 ≤ i ∧ i ≤ (g.length : Int) ∧ ∀ a ∈ g.take i.toNat, ∀ b ∈ g, cgP g a b
def cgIn (g : List Op3) (a : Op3) (j : Int) : Prop := 0 ≤ j ∧ j ≤ (g.length : Int) ∧ ∀ b ∈ g.take j.toNat, cgP g a b
def plInv (g : List Op3) (m : List (Op3 × Int)) (i : Int) : Prop := 0 ≤ i ∧ i ≤ (g.length : Int) ∧ (∀ p, mhas eqO m p = true ↔ p ∈ g.take i.toNat) ∧ (g.Nodup → ∀ k, k < i.toNat → mgetD eqO m (g.getD k zerO) = k)
def fndF (e f k : Int) : Int × Int := if (if e = 0 ∨ (f ≠ 0 ∧ f < e) then f else e) ≠ 0 then (0, if e = 0 ∨ (f ≠ 0 ∧ f < e) then f else e) else if k < 0 then (0, 9) else (k, 0)
def fndI (g : List Op3) (o : Op3) : Int := (fndF (chkE g) (gE [o]) (idxO g o)).1
def fndE (g : List Op3) (o : Op3) : Int := (fndF (chkE g) (gE [o]) (idxO g o)).2
def dfiI (g : List Op3) (o : Op3) : Int := (fndF (chkE g) (errL [o]) (idxO g o)).1
def dfiE (g : List Op3) (o : Op3) : Int := (fndF (chkE g) (errL [o]) (idxO g o)).2
def rowO (g : List Op3) (a : Op3) : List Int := g.map fun b => idxO g (mulO a b)
def tabL (g : List Op3) : List (List Int) := if chkE g = 0 then g.map (rowO g) else []
def invL (g : List Op3) : List Int := if chkE g = 0 then g.map fun a => idxI (rowO g a) (idxO g oneO) else []
def tbInv (g : List Op3) (r : List (List Int)) (i : Int) : Prop := 0 ≤ i ∧ i ≤ (g.length : Int) ∧ r = (g.take i.toNat).map (rowO g)
def tbIn (g : List Op3) (a : Op3) (r : List Int) (j : Int) : Prop := 0 ≤ j ∧ j ≤ (g.length : Int) ∧ r.length = g.length ∧ r.take j.toNat = (rowO g a).take j.toNat
def ivInv (t : List (List Int)) (x : Int) (l : List Int) (i : Int) : Prop := 0 ≤ i ∧ i ≤ (t.length : Int) ∧ l = (t.take i.toNat).map fun r => idxI r x
def rotS (l : List M3) (o : Op3) : List M3 := if l.length = 0 ∨ cmpM (l.getD (l.length - 1) zerO.R) o.R ≠ 0 then l ++ [o.R] else l
def rotF (g : List Op3) : List M3 := g.foldl rotS []
def rotL (g : List Op3) : List M3 := if chkE g = 0 then rotF g else []
def roInv (g : List Op3) (l : List M3) (i : Int) : Prop := 0 ≤ i ∧ i ≤ (g.length : Int) ∧ l = rotF (g.take i.toNat)
def cenF (g : List Op3) : List V3 := (g.filter fun o => eqM o.R (oneZ 1)).map fun o => o.T
def cenL (g : List Op3) : List V3 := if chkE g = 0 then cenF g else []
def ceInv (g : List Op3) (l : List V3) (i : Int) : Prop := 0 ≤ i ∧ i ≤ (g.length : Int) ∧ l = cenF (g.take i.toNat)
theorem opMu_next {g : List Op3} {i : Int} (hg : g.length * 96 ≤ room) (h0 : 0 ≤ i) (hi : i < (g.length : Int)) : w64 (i + 1) = i + 1 ∧ decide (0 ≤ opMu g (w64 (i + 1))) = true ∧ decide (opMu g (w64 (i + 1)) < opMu g i) = true := by
  have e : w64 (i + 1) = i + 1 := w64_id (by omega) (by unfold room at hg; omega)
  rw [e]
  refine ⟨rfl, decide_eq_true ?_, decide_eq_true ?_⟩ <;> unfold opMu <;> omega
theorem take_succ {α : Type} {l : List α} {i : Int} (h0 : 0 ≤ i) (hi : i < (l.length : Int)) (d : α) : l.take (i + 1).toNat = l.take i.toNat ++ [l.getD i.toNat d] := by
  rw [show (i + 1).toNat = i.toNat + 1 by omega, List.take_add_one]
  have : i.toNat < l.length := by omega
  simp [List.getD, this]
theorem take_end {α : Type} {l : List α} {i : Int} (hi : ¬ i < (l.length : Int)) : l.take i.toNat = l := List.take_of_length_le (by omega)
theorem getD_mem {α : Type} {l : List α} {i : Int} (h0 : 0 ≤ i) (hi : i < (l.length : Int)) (d : α) : l.getD i.toNat d ∈ l := by
  have : i.toNat < l.length := by omega
  simp [List.getD, this]
end Go.Fx
