/-
  A group of maps that moves the numbers below P: orbits, their least numbers, how many there are.
-/
import Derived.Test.YtcadkndjcneedaaGreatGk
set_option linter.unusedSimpArgs false
set_option linter.unusedVariables false
set_option linter.unusedSectionVars false
namespace Go.Fx
open Go
structure Act (g : List Op3) (P : Nat) (f : Op3 → Nat → Nat) : Prop where
  grp : chkE g = 0
  lt : ∀ o ∈ g, ∀ k, k < P → f o k < P
  one : ∀ k, k < P → f oneO k = k
  mul : ∀ a ∈ g, ∀ b ∈ g, ∀ k, k < P → f (mulO a b) k = f a (f b k)
section
variable (f : Op3 → Nat → Nat) (g : List Op3)
def imgN (k : Nat) : List Nat := g.map fun o => f o k
/-- The least of an orbit. -/
def loN (k : Nat) : Nat := (imgN f g k).foldl min k
def isF (k : Nat) : Bool := decide (loN f g k = k)
def fstN (k : Nat) : List Nat := (List.range k).filter (isF f g)
/-- How many first numbers stand ahead. -/
def rkN (k : Nat) : Nat := (fstN f g k).length
/-- How many numbers the orbit has whose least is k. -/
def ctN (P k : Nat) : Nat := ((List.range P).filter fun j => decide (loN f g j = k)).length
/-- How many numbers a map leaves. -/
def fxN (P : Nat) (o : Op3) : Nat := ((List.range P).filter fun k => decide (f o k = k)).length
/-- How many maps leave a number. -/
def stN (k : Nat) : Nat := (g.filter fun o => decide (f o k = k)).length
end
theorem foldl_min_le : ∀ (l : List Nat) (m : Nat), l.foldl min m ≤ m ∧ ∀ x ∈ l, l.foldl min m ≤ x
  | [], m => ⟨Nat.le_refl _, fun x h => by cases h⟩
  | y :: r, m => by
    obtain ⟨h1, h2⟩ := foldl_min_le r (min m y)
    refine ⟨Nat.le_trans h1 (Nat.min_le_left _ _), fun x hx => ?_⟩
    rcases List.mem_cons.1 hx with rfl | hx
    · exact Nat.le_trans h1 (Nat.min_le_right _ _)
    · exact h2 x hx
theorem foldl_min_mem : ∀ (l : List Nat) (m : Nat), l.foldl min m = m ∨ l.foldl min m ∈ l
  | [], m => .inl rfl
  | y :: r, m => by
    rw [List.foldl_cons]
    rcases foldl_min_mem r (min m y) with h | h
    · rcases Nat.le_total m y with c | c
      · rw [Nat.min_eq_left c] at h ⊢; exact .inl h
      · rw [Nat.min_eq_right c] at h ⊢; exact .inr (by rw [h]; exact List.mem_cons_self ..)
    · exact .inr (List.mem_cons_of_mem _ h)
section
variable {g : List Op3} {P : Nat} {f : Op3 → Nat → Nat} (hA : Act g P f)
include hA
theorem ac_one : oneO ∈ g := (chk_grp hA.grp).2.2.1
theorem ac_self {k : Nat} (hk : k < P) : k ∈ imgN f g k := List.mem_map.2 ⟨oneO, ac_one hA, hA.one k hk⟩
theorem ac_move {k : Nat} (hk : k < P) {o : Op3} (ho : o ∈ g) (x : Nat) : x ∈ imgN f g (f o k) ↔ x ∈ imgN f g k := by
  obtain ⟨_, _, _, hcl⟩ := chk_grp hA.grp
  unfold imgN
  rw [List.mem_map, List.mem_map]
  constructor
  · rintro ⟨a, ha, rfl⟩
    exact ⟨mulO a o, hcl a ha o ho, hA.mul a ha o ho k hk⟩
  · rintro ⟨a, ha, rfl⟩
    obtain ⟨c, hc, e, _⟩ := grp_left hA.grp ho
    refine ⟨mulO a c, hcl a ha c hc, ?_⟩
    rw [hA.mul a ha c hc _ (hA.lt o ho k hk), ← hA.mul c hc o ho k hk, e, hA.one k hk]
theorem ac_lt {k : Nat} (hk : k < P) {x : Nat} (hx : x ∈ imgN f g k) : x < P := by
  obtain ⟨o, ho, rfl⟩ := List.mem_map.1 hx
  exact hA.lt o ho k hk
theorem ac_sym {k : Nat} (hk : k < P) {x : Nat} (hx : x ∈ imgN f g k) : k ∈ imgN f g x := by
  obtain ⟨o, ho, rfl⟩ := List.mem_map.1 hx
  exact (ac_move hA hk ho k).2 (ac_self hA hk)
theorem lo_mem {k : Nat} (hk : k < P) : loN f g k ∈ imgN f g k := by
  unfold loN
  rcases foldl_min_mem (imgN f g k) k with h | h
  · rw [h]; exact ac_self hA hk
  · exact h
theorem lo_le {k x : Nat} (hx : x ∈ imgN f g k) : loN f g k ≤ x := (foldl_min_le _ _).2 x hx
theorem lo_lek (k : Nat) : loN f g k ≤ k := (foldl_min_le _ _).1
theorem lo_eq {k x : Nat} (hk : k < P) (hx : x ∈ imgN f g k) : loN f g x = loN f g k := by
  have hxP := ac_lt hA hk hx
  have key : ∀ {k x : Nat}, k < P → x ∈ imgN f g k → loN f g k ≤ loN f g x := fun {k x} hk hx => by
    have hxP := ac_lt hA hk hx
    obtain ⟨o, ho, rfl⟩ := List.mem_map.1 hx
    exact lo_le hA ((ac_move hA hk ho _).1 (lo_mem hA hxP))
  have h1 := key hk hx
  have h2 := key hxP (ac_sym hA hk hx)
  omega
theorem lo_lt {k : Nat} (hk : k < P) : loN f g k < P := ac_lt hA hk (lo_mem hA hk)
theorem lo_lo {k : Nat} (hk : k < P) : loN f g (loN f g k) = loN f g k := lo_eq hA hk (lo_mem hA hk)
theorem lo_iff {k x : Nat} (hk : k < P) (hx : x < P) : loN f g x = loN f g k ↔ x ∈ imgN f g k := by
  refine ⟨fun e => ?_, lo_eq hA hk⟩
  have h1 := ac_sym hA hx (lo_mem hA hx)
  have h2 := lo_mem hA hk
  rw [e] at h1
  obtain ⟨o, ho, e2⟩ := List.mem_map.1 h2
  rw [← e2] at h1
  exact (ac_move hA hk ho x).1 h1
theorem lo_move {k : Nat} (hk : k < P) {o : Op3} (ho : o ∈ g) : loN f g (f o k) = loN f g k := lo_eq hA hk (List.mem_map.2 ⟨o, ho, rfl⟩)
theorem fst_mem {k x : Nat} : x ∈ fstN f g k ↔ x < k ∧ loN f g x = x := by
  unfold fstN isF
  rw [List.mem_filter, List.mem_range, decide_eq_true_iff]
theorem fst_lo {j : Nat} (hj : j < P) : loN f g j ∈ fstN f g P := (fst_mem hA).2 ⟨lo_lt hA hj, lo_lo hA hj⟩
theorem fst_succ (k : Nat) : fstN f g (k + 1) = if loN f g k = k then fstN f g k ++ [k] else fstN f g k := by
  unfold fstN
  rw [List.range_succ, List.filter_append]
  unfold isF
  split
  · rename_i h; rw [List.filter_cons_of_pos (by simpa using h)]; rfl
  · rename_i h; rw [List.filter_cons_of_neg (by simpa using h)]; simp
end
end Go.Fx
