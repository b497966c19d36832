/-
  A group of maps that moves the numbers below P: orbits, their least numbers, how many there are.
-/
import Derived.Test.YtkmbomopkojgfaaGreatGk
set_option linter.unusedSimpArgs false
set_option linter.unusedVariables false
set_option linter.unusedSectionVars false
namespace Go.Fx
open Go
structure Act (g : List Op3) (P : Nat) (f : Op3 → Nat → Nat) : Prop where
  grp : chkE g = 0
  lt : ∀ o ∈ g, ∀ k, k < P → f o k < P
  one : ∀ k, k < P → f oneO k = k
  mul : ∀ a ∈ g, ∀ b ∈ g, ∀ k, k < P → f (mulO a b) k = f a (f b k)
section
variable (f : Op3 → Nat → Nat) (g : List Op3)
def imgN (k : Nat) : List Nat := g.map fun o => f o k
/-- The least of an orbit. -/
def loN (k : Nat) : Nat := (imgN f g k).foldl min k
def isF (k : Nat) : Bool := decide (loN f g k = k)
def fstN (k : Nat) : List Nat := (List.range k).filter (isF f g)
/-- How many first numbers stand ahead. -/
def rkN (k : Nat) : Nat := (fstN f g k).length
/-- How many numbers the orbit has whose least is k. -/
def ctN (P k : Nat) : Nat := ((List.range P).filter fun j => decide (loN f g j = k)).length
/-- How many numbers a map leaves. -/
def fxN (P : Nat) (o : Op3) : Nat := ((List.range P).filter fun k => decide (f o k = k)).length
/-- How many maps leave a number. -/
def stN (k : Nat) : Nat := (g.filter fun o => decide (f o k = k)).length
end
theorem foldl_min_le : ∀ (l : List Nat) (m : Nat), l.foldl min m ≤ m ∧ ∀ x ∈ l, l.foldl min m ≤ x
  | [], m => ⟨Nat.le_refl _, fun x h => by cases h⟩
  | y :: r, m => by
    obtain ⟨h1, h2⟩ := foldl_min_le r (min m y)
    refine ⟨Nat.le_trans h1 (Nat.min_le_left _ _), fun x hx => ?_⟩
    rcases List.mem_cons.1 hx with rfl | hx
    · exact Nat.le_trans h1 (Nat.min_le_right _ _)
    · exact h2 x hx
theorem foldl_min_mem : ∀ (l : List Nat) (m : Nat), l.foldl min m = m ∨ l.foldl min m ∈ l
  | [], m => .inl rfl
  | y :: r, m => by
    rw [List.foldl_cons]
    rcases foldl_min_mem r (min m y) with h | h
    · rcases Nat.le_total m y with c | c
      · rw [Nat.min_eq_left c] at h ⊢; exact .inl h
      · rw [Nat.min_eq_right c] at h ⊢; exact .inr (by rw [h]; exact List.mem_cons_self ..)
    · exact .inr (List.mem_cons_of_mem _ h)
/-- A sum, cut by what a function gives. -/
theorem sum_fibW {α β : Type} [DecidableEq β] (f : α → β) (w : α → Nat) : ∀ (ms : List β) (l : List α), ms.Nodup → (∀ o ∈ l, f o ∈ ms) → (l.map w).sum = (ms.map fun m => ((l.filter fun o => decide (f o = m)).map w).sum).sum
  | [], l, _, h => by
    have : l = [] := List.eq_nil_iff_forall_not_mem.2 fun o ho => by cases h o ho
    subst this; rfl
  | m :: ms, l, hn, h => by
    rw [List.nodup_cons] at hn
    have h1 := sum_fibW f w ms (l.filter fun o => !decide (f o = m)) hn.2 (fun o ho => by
      obtain ⟨h2, h3⟩ := List.mem_filter.1 ho
      rcases List.mem_cons.1 (h o h2) with e | e
      · rw [decide_eq_true e] at h3; cases h3
      · exact e)
    have h2 : ∀ l : List α, (l.map w).sum = ((l.filter fun o => decide (f o = m)).map w).sum + ((l.filter fun o => !decide (f o = m)).map w).sum := fun l => by
      induction l with
      | nil => rfl
      | cons x r ih =>
        by_cases e : f x = m
        · rw [List.filter_cons_of_pos (by simpa using e), List.filter_cons_of_neg (by simpa using e), List.map_cons, List.map_cons, List.sum_cons, List.sum_cons, ih]; omega
        · rw [List.filter_cons_of_neg (by simpa using e), List.filter_cons_of_pos (by simpa using e), List.map_cons, List.map_cons, List.sum_cons, List.sum_cons, ih]; omega
    rw [h2, h1, List.map_cons, List.sum_cons]
    congr 1
    congr 1
    apply List.map_congr_left
    intro m' hm'
    rw [List.filter_filter]
    congr 2
    apply List.filter_congr
    intro o _
    by_cases e : f o = m'
    · have : ¬ f o = m := fun e2 => hn.1 (by rw [← e2, e]; exact hm')
      simp [e, this]
      intro e3; exact this (e.trans e3)
    · simp [e]
theorem sum_const {α : Type} (w : α → Nat) (c : Nat) : ∀ l : List α, (∀ x ∈ l, w x = c) → (l.map w).sum = l.length * c
  | [], _ => by simp
  | x :: r, h => by
    rw [List.map_cons, List.sum_cons, sum_const w c r fun y hy => h y (List.mem_cons_of_mem _ hy), h x (List.mem_cons_self ..), List.length_cons, Nat.succ_mul]; omega
theorem sum_one {α : Type} (l : List α) : (l.map fun _ => 1).sum = l.length := by
  rw [sum_const (fun _ => 1) 1 l fun _ _ => rfl, Nat.mul_one]
theorem sum_swap {α β : Type} (p : α → β → Bool) (m : List β) : ∀ l : List α, (l.map fun a => (m.filter fun b => p a b).length).sum = (m.map fun b => (l.filter fun a => p a b).length).sum
  | [] => by
    have h : (m.map fun b => (([] : List α).filter fun a => p a b).length) = m.map fun _ => 0 := rfl
    rw [h, sum_const (fun _ => 0) 0 m fun _ _ => rfl]; simp
  | a :: r => by
    rw [List.map_cons, List.sum_cons, sum_swap p m r]
    clear sum_swap
    induction m with
    | nil => rfl
    | cons b m ih =>
      rw [List.map_cons, List.map_cons, List.sum_cons, List.sum_cons]
      have ih : (List.filter (p a) m).length + ((List.filter (fun a => p a b) r).length * 0 + (m.map fun b => (r.filter fun a => p a b).length).sum) = (m.map fun b => ((a :: r).filter fun a => p a b).length).sum := by rw [Nat.mul_zero, Nat.zero_add]; exact ih
      by_cases e : p a b = true
      · rw [List.filter_cons_of_pos (p := p a) e, List.filter_cons_of_pos (p := fun a => p a b) e, List.length_cons, List.length_cons]; omega
      · rw [List.filter_cons_of_neg (p := p a) e, List.filter_cons_of_neg (p := fun a => p a b) e]; omega
section
variable {g : List Op3} {P : Nat} {f : Op3 → Nat → Nat} (hA : Act g P f)
include hA
theorem ac_one : oneO ∈ g := (chk_grp hA.grp).2.2.1
theorem ac_self {k : Nat} (hk : k < P) : k ∈ imgN f g k := List.mem_map.2 ⟨oneO, ac_one hA, hA.one k hk⟩
theorem ac_move {k : Nat} (hk : k < P) {o : Op3} (ho : o ∈ g) (x : Nat) : x ∈ imgN f g (f o k) ↔ x ∈ imgN f g k := by
  obtain ⟨_, _, _, hcl⟩ := chk_grp hA.grp
  unfold imgN
  rw [List.mem_map, List.mem_map]
  constructor
  · rintro ⟨a, ha, rfl⟩
    exact ⟨mulO a o, hcl a ha o ho, hA.mul a ha o ho k hk⟩
  · rintro ⟨a, ha, rfl⟩
    obtain ⟨c, hc, e, _⟩ := grp_left hA.grp ho
    refine ⟨mulO a c, hcl a ha c hc, ?_⟩
    rw [hA.mul a ha c hc _ (hA.lt o ho k hk), ← hA.mul c hc o ho k hk, e, hA.one k hk]
theorem ac_lt {k : Nat} (hk : k < P) {x : Nat} (hx : x ∈ imgN f g k) : x < P := by
  obtain ⟨o, ho, rfl⟩ := List.mem_map.1 hx
  exact hA.lt o ho k hk
theorem ac_sym {k : Nat} (hk : k < P) {x : Nat} (hx : x ∈ imgN f g k) : k ∈ imgN f g x := by
  obtain ⟨o, ho, rfl⟩ := List.mem_map.1 hx
  exact (ac_move hA hk ho k).2 (ac_self hA hk)
theorem lo_mem {k : Nat} (hk : k < P) : loN f g k ∈ imgN f g k := by
  unfold loN
  rcases foldl_min_mem (imgN f g k) k with h | h
  · rw [h]; exact ac_self hA hk
  · exact h
theorem lo_le {k x : Nat} (hx : x ∈ imgN f g k) : loN f g k ≤ x := (foldl_min_le _ _).2 x hx
theorem lo_lek (k : Nat) : loN f g k ≤ k := (foldl_min_le _ _).1
theorem lo_eq {k x : Nat} (hk : k < P) (hx : x ∈ imgN f g k) : loN f g x = loN f g k := by
  have hxP := ac_lt hA hk hx
  have key : ∀ {k x : Nat}, k < P → x ∈ imgN f g k → loN f g k ≤ loN f g x := fun {k x} hk hx => by
    have hxP := ac_lt hA hk hx
    obtain ⟨o, ho, rfl⟩ := List.mem_map.1 hx
    exact lo_le hA ((ac_move hA hk ho _).1 (lo_mem hA hxP))
  have h1 := key hk hx
  have h2 := key hxP (ac_sym hA hk hx)
  omega
theorem lo_lt {k : Nat} (hk : k < P) : loN f g k < P := ac_lt hA hk (lo_mem hA hk)
theorem lo_lo {k : Nat} (hk : k < P) : loN f g (loN f g k) = loN f g k := lo_eq hA hk (lo_mem hA hk)
theorem lo_iff {k x : Nat} (hk : k < P) (hx : x < P) : loN f g x = loN f g k ↔ x ∈ imgN f g k := by
  refine ⟨fun e => ?_, lo_eq hA hk⟩
  have h1 := ac_sym hA hx (lo_mem hA hx)
  have h2 := lo_mem hA hk
  rw [e] at h1
  obtain ⟨o, ho, e2⟩ := List.mem_map.1 h2
  rw [← e2] at h1
  exact (ac_move hA hk ho x).1 h1
theorem lo_move {k : Nat} (hk : k < P) {o : Op3} (ho : o ∈ g) : loN f g (f o k) = loN f g k := lo_eq hA hk (List.mem_map.2 ⟨o, ho, rfl⟩)
theorem fst_mem {k x : Nat} : x ∈ fstN f g k ↔ x < k ∧ loN f g x = x := by
  unfold fstN isF
  rw [List.mem_filter, List.mem_range, decide_eq_true_iff]
theorem fst_nodup (k : Nat) : (fstN f g k).Nodup := List.nodup_range.filter _
theorem fst_lo {j : Nat} (hj : j < P) : loN f g j ∈ fstN f g P := (fst_mem hA).2 ⟨lo_lt hA hj, lo_lo hA hj⟩
/-- The counts make all. -/
theorem ct_sum : ((fstN f g P).map (ctN f g P)).sum = P := by
  have h := sum_fibW (loN f g) (fun _ => 1) (fstN f g P) (List.range P) (fst_nodup hA P) (fun j hj => fst_lo hA (List.mem_range.1 hj))
  rw [sum_one, List.length_range] at h
  refine Eq.trans ?_ h.symm
  congr 1
  apply List.map_congr_left
  intro m _
  rw [sum_one]; rfl
theorem fib_leN {k x : Nat} (hk : k < P) {a : Op3} (ha : a ∈ g) : (g.filter fun o => decide (f o k = x)).length ≤ (g.filter fun o => decide (f o k = f a x)).length := by
  obtain ⟨_, hnd, _, hcl⟩ := chk_grp hA.grp
  have hm : ∀ y ∈ g.filter (fun o => decide (f o k = x)), y ∈ g ∧ f y k = x := fun y hy => ⟨(List.mem_filter.1 hy).1, of_decide_eq_true (List.mem_filter.1 hy).2⟩
  have hn : ((g.filter fun o => decide (f o k = x)).map (mulO a)).Nodup := nodup_map (hnd.filter _) fun y hy z hz' e => mul_cancel hA.grp ha (hm y hy).1 (hm z hz').1 e
  have := nodup_le (m := g.filter fun o => decide (f o k = f a x)) hn fun y hy => by
    obtain ⟨z, hz', rfl⟩ := List.mem_map.1 hy
    obtain ⟨h1, h2⟩ := hm z hz'
    exact List.mem_filter.2 ⟨hcl a ha z h1, decide_eq_true (by rw [hA.mul a ha z h1 k hk, h2])⟩
  rwa [List.length_map] at this
theorem fib_eqN {k x : Nat} (hk : k < P) (hx : x ∈ imgN f g k) : (g.filter fun o => decide (f o k = x)).length = stN f g k := by
  obtain ⟨a, ha, rfl⟩ := List.mem_map.1 hx
  obtain ⟨c, hc, e, _⟩ := grp_left hA.grp ha
  have h1 := fib_leN hA (x := k) hk ha
  have h2 := fib_leN hA (x := f a k) hk hc
  rw [← hA.mul c hc a ha k hk, e, hA.one k hk] at h2
  unfold stN
  omega
/-- Orbit times stabiliser. -/
theorem orb_st {k : Nat} (hk : k < P) : g.length = ctN f g P (loN f g k) * stN f g k := by
  refine sum_fibG (fun o => f o k) _ _ g (List.nodup_range.filter _) (fun o ho => ?_) fun m hm => ?_
  · exact List.mem_filter.2 ⟨List.mem_range.2 (hA.lt o ho k hk), decide_eq_true (lo_move hA hk ho)⟩
  · obtain ⟨h1, h2⟩ := List.mem_filter.1 hm
    exact fib_eqN hA hk ((lo_iff hA hk (List.mem_range.1 h1)).1 (of_decide_eq_true h2))
theorem g_pos : 0 < g.length := List.length_pos_of_mem (ac_one hA)
theorem ct_pos {k : Nat} (hk : k < P) : 0 < ctN f g P (loN f g k) := List.length_pos_of_mem (a := k) (List.mem_filter.2 ⟨List.mem_range.2 hk, decide_eq_true rfl⟩)
theorem st_lo {k : Nat} (hk : k < P) : stN f g k = stN f g (loN f g k) := by
  have h1 := orb_st hA hk
  have h2 := orb_st hA (lo_lt hA hk)
  rw [lo_lo hA hk] at h2
  exact Nat.eq_of_mul_eq_mul_left (ct_pos hA hk) (h1.symm.trans h2)
/-- Orbits are the mean of what the maps leave. -/
theorem burnside : (g.map (fxN f P)).sum = (fstN f g P).length * g.length := by
  have h1 := sum_swap (fun o k => decide (f o k = k)) (List.range P) g
  unfold fxN
  rw [h1]
  have h2 := sum_fibW (loN f g) (stN f g) (fstN f g P) (List.range P) (fst_nodup hA P) (fun j hj => fst_lo hA (List.mem_range.1 hj))
  show ((List.range P).map (stN f g)).sum = _
  rw [h2]
  refine sum_const _ _ _ fun m hm => ?_
  obtain ⟨m1, m2⟩ := (fst_mem hA).1 hm
  rw [sum_const (stN f g) (stN f g m) _ fun x hx => by
    obtain ⟨x1, x2⟩ := List.mem_filter.1 hx
    rw [st_lo hA (List.mem_range.1 x1), of_decide_eq_true x2]]
  have := orb_st hA m1
  rw [m2] at this
  exact this.symm
theorem ct_dvd {k : Nat} (hk : k ∈ fstN f g P) : 1 ≤ ctN f g P k ∧ ctN f g P k ∣ g.length := by
  obtain ⟨h1, h2⟩ := (fst_mem hA).1 hk
  have h3 := ct_pos hA h1
  have h4 := orb_st hA h1
  rw [h2] at h3 h4
  exact ⟨h3, ⟨_, h4⟩⟩
theorem fst_succ (k : Nat) : fstN f g (k + 1) = if loN f g k = k then fstN f g k ++ [k] else fstN f g k := by
  unfold fstN
  rw [List.range_succ, List.filter_append]
  unfold isF
  split
  · rename_i h; rw [List.filter_cons_of_pos (by simpa using h)]; rfl
  · rename_i h; rw [List.filter_cons_of_neg (by simpa using h)]; simp
theorem fst_split {k n : Nat} (h : k ≤ n) : ∃ r, fstN f g n = fstN f g k ++ r := by
  induction n with
  | zero => have : k = 0 := by omega
            subst this; exact ⟨[], by simp⟩
  | succ n ih =>
    by_cases e : k = n + 1
    · subst e; exact ⟨[], by simp⟩
    · obtain ⟨r, hr⟩ := ih (by omega)
      rw [fst_succ hA, hr]
      split
      · exact ⟨r ++ [n], by simp⟩
      · exact ⟨r, rfl⟩
/-- The first numbers by their ranks. -/
theorem fst_rk {k n : Nat} (h : k < n) (hf : loN f g k = k) (d : Nat) : (fstN f g n).getD (rkN f g k) d = k ∧ rkN f g k < (fstN f g n).length := by
  obtain ⟨r, hr⟩ := fst_split hA (show k + 1 ≤ n by omega)
  rw [fst_succ hA, if_pos hf] at hr
  rw [hr]
  unfold rkN
  constructor
  · simp [List.getD]
  · simp
end
end Go.Fx
