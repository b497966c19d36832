/-
  Lists in order, by any order that is total on the elements.
-/
import Derived.Test.YtcadkndjcneedaaGreatE19
set_option linter.unusedSimpArgs false
set_option linter.unusedVariables false
set_option linter.unusedSectionVars false
namespace Go.Fx
open Go

/-- c orders those that are P. -/
structure TO {α : Type} (P : α → Prop) (c : α → α → Int) : Prop where
  anti : ∀ a b, P a → P b → (c a b < 0 ↔ 0 < c b a)
  zero : ∀ a b, P a → P b → c a b = 0 → a = b
  trans : ∀ a b d, P a → P b → P d → c a b ≤ 0 → c b d ≤ 0 → c a d ≤ 0
section
variable {α : Type} {P : α → Prop} {c : α → α → Int}
theorem TO.self (h : TO P c) {a : α} (ha : P a) : c a a = 0 := by
  have := h.anti a a ha ha
  omega
theorem TO.lt (h : TO P c) {a b : α} (ha : P a) (hb : P b) : c a b < 0 ∨ a = b ∨ c b a < 0 := by
  have h1 := h.anti a b ha hb
  have h2 := h.anti b a hb ha
  rcases Int.lt_trichotomy (c a b) 0 with h3 | h3 | h3
  · exact .inl h3
  · exact .inr (.inl (h.zero a b ha hb h3))
  · exact .inr (.inr (h2.2 h3))
theorem TO.ltt (h : TO P c) {a b d : α} (ha : P a) (hb : P b) (hd : P d) (h1 : c a b < 0) (h2 : c b d ≤ 0) : c a d < 0 := by
  have h3 := h.trans a b d ha hb hd (by omega) h2
  rcases Int.lt_or_eq_of_le h3 with h4 | h4
  · exact h4
  · have e := h.zero a d ha hd h4
    subst e
    have := (h.anti a b ha hb).1 h1
    omega
def putG (c : α → α → Int) : List α → α → List α
  | [], o => [o]
  | x :: r, o => if c x o < 0 then x :: putG c r o else o :: x :: r
def insG (c : α → α → Int) (l : List α) : List α := l.foldl (putG c) []
def ordG (c : α → α → Int) (l : List α) : Prop := l.Pairwise fun a b => c a b ≤ 0
/-- In order, and no two are one. -/
def stG (c : α → α → Int) (l : List α) : Prop := l.Pairwise fun a b => c a b < 0
theorem putG_perm (o : α) : ∀ l : List α, (putG c l o).Perm (o :: l)
  | [] => List.Perm.refl _
  | x :: r => by
    unfold putG
    split
    · exact ((putG_perm o r).cons x).trans (List.Perm.swap o x r)
    · exact List.Perm.refl _
theorem putG_ord (hT : TO P c) {o : α} (ho : P o) : ∀ {l : List α}, (∀ x ∈ l, P x) → ordG c l → ordG c (putG c l o)
  | [], _, _ => List.pairwise_singleton _ _
  | x :: r, hp, h => by
    have hx : ordG c r ∧ ∀ y ∈ r, c x y ≤ 0 := by
      rw [ordG, List.pairwise_cons] at h
      exact ⟨h.2, h.1⟩
    have px := hp x (List.mem_cons_self ..)
    unfold putG
    split
    · rename_i hlt
      refine List.pairwise_cons.2 ⟨fun y hy => ?_, putG_ord hT ho (fun y hy => hp y (List.mem_cons_of_mem _ hy)) hx.1⟩
      rcases List.mem_cons.1 ((putG_perm o r).mem_iff.1 hy) with rfl | hy
      · omega
      · exact hx.2 y hy
    · rename_i hge
      have h1 : c o x ≤ 0 := by have := hT.anti x o px ho; have := hT.anti o x ho px; omega
      refine List.pairwise_cons.2 ⟨fun y hy => ?_, h⟩
      rcases List.mem_cons.1 hy with rfl | hy
      · exact h1
      · exact hT.trans o x y ho px (hp y (List.mem_cons_of_mem _ hy)) h1 (hx.2 y hy)
theorem foldG_perm : ∀ (l a : List α), (l.foldl (putG c) a).Perm (a ++ l)
  | [], a => by simp
  | x :: r, a => by
    have h := foldG_perm r (putG c a x)
    refine h.trans ?_
    have h2 := (putG_perm (c := c) x a).append_right r
    exact h2.trans (List.perm_middle.symm)
theorem foldG_ord (hT : TO P c) : ∀ (l : List α) {a : List α}, (∀ x ∈ l, P x) → (∀ x ∈ a, P x) → ordG c a → ordG c (l.foldl (putG c) a)
  | [], _, _, _, h => h
  | x :: r, a, hl, ha, h => foldG_ord hT r (fun y hy => hl y (List.mem_cons_of_mem _ hy)) (fun y hy => by
      rcases List.mem_cons.1 ((putG_perm x a).mem_iff.1 hy) with rfl | hy
      · exact hl _ (List.mem_cons_self ..)
      · exact ha y hy) (putG_ord hT (hl x (List.mem_cons_self ..)) ha h)
theorem insG_perm (l : List α) : (insG c l).Perm l := by simpa [insG] using foldG_perm (c := c) l []
theorem insG_ord (hT : TO P c) {l : List α} (hl : ∀ x ∈ l, P x) : ordG c (insG c l) := foldG_ord hT l hl (fun x hx => by cases hx) List.Pairwise.nil
/-- In order there is one list. -/
theorem ordG_unique (hT : TO P c) : ∀ {l m : List α}, (∀ x ∈ l, P x) → ordG c l → ordG c m → l.Perm m → l = m
  | [], m, _, _, _, h => (List.nil_perm.1 h).symm
  | x :: r, [], _, _, _, h => by cases List.perm_nil.1 h
  | x :: r, y :: s, hp, hl, hm, h => by
    rw [ordG, List.pairwise_cons] at hl hm
    have hxy : x = y := by
      have hx : x ∈ y :: s := h.mem_iff.1 (List.mem_cons_self ..)
      have hy : y ∈ x :: r := h.mem_iff.2 (List.mem_cons_self ..)
      have px := hp x (List.mem_cons_self ..)
      have py := hp y hy
      rcases List.mem_cons.1 hx with e | hx
      · exact e
      · rcases List.mem_cons.1 hy with e | hy
        · exact e.symm
        · have h1 := hm.1 x hx
          have h2 := hl.1 y hy
          have h3 := hT.anti x y px py
          have h4 := hT.anti y x py px
          exact hT.zero x y px py (by omega)
    subst hxy
    rw [ordG_unique hT (fun z hz => hp z (List.mem_cons_of_mem _ hz)) hl.2 hm.2 (List.Perm.cons_inv h)]
/-- Of neighbours that are alike the first. -/
def cpG [DecidableEq α] : List α → List α
  | [] => []
  | [x] => [x]
  | x :: y :: r => if x = y then cpG (y :: r) else x :: cpG (y :: r)
/-- The unlike ones, in order. -/
def unqG [DecidableEq α] (c : α → α → Int) (l : List α) : List α := cpG (insG c l)
end
end Go.Fx
