/-
  The orders of maps, columns and places; slices.SortFunc at maps.
-/
import Derived.Test.YtcadkndjcneedaaGreatGc
import Derived.Test.YtcadkndjcneedaaGreatSo
set_option linter.unusedSimpArgs false
set_option linter.unusedVariables false
set_option linter.unusedSectionVars false
namespace Go.Fx
open Go Go.Proofs Go.Shelf Go.RowKit Go.Lib Go.Sort

theorem toO : TO (fun _ : Op3 => True) cmpO where
  anti a b _ _ := by have h1 := cmpO_anti a b; have h2 := cmpO_anti b a; omega
  zero a b _ _ h := cmpO_zero.1 h
  trans a b d _ _ _ h1 h2 := (cmpO_trans a b d).1 h1 h2
theorem putG_putO (o : Op3) : ∀ l : List Op3, putG cmpO l o = putO l o
  | [] => rfl
  | x :: r => by unfold putG putO; rw [putG_putO o r]
theorem insG_sortO : insG cmpO = sortO := by
  funext l
  have : putG cmpO = putO := by funext l o; exact putG_putO o l
  unfold insG sortO insO
  rw [this]
theorem sort_mutO {P : Program} {ρ : Ren} (L : SlLaysF0.n6 P ρ) (aE : ∀ w, (isAgg (ρ.t 24)).run P w = .ok true w) (zE : ∀ w, (Go.sizeOf (ρ.t 24)).run P w = .ok 12 w) {g : Nat} (eg : ∀ args w, (callFunc g args).run P w = .ok (.enter g args) w) (hC : Sound P g (cmpCF .op cmpO)) :
    MutSound P (ρ.f 6) ⟨.op, some g, sortO, fun _ => True⟩ := fun w l v _ hl => by
  have h := sort_runF (f := .op) (Pf := fun _ => True) toO L aE zE eg hC w l v (fun _ _ => trivial) hl
  have hG : @Eq (List Fl.op.ty → List Fl.op.ty) (insG (α := Fl.op.ty) cmpO) sortO := insG_sortO
  rw [hG] at h
  exact h
theorem cmpV_lex (a b : V3) : cmpV a b = lexL [a.x, a.y, a.z] [b.x, b.y, b.z] := rfl
theorem cmpV_zero {a b : V3} : cmpV a b = 0 ↔ a = b := by
  rw [cmpV_lex, lexL_zero (a := [a.x, a.y, a.z]) (b := [b.x, b.y, b.z]) rfl]
  obtain ⟨a1, a2, a3⟩ := a
  obtain ⟨b1, b2, b3⟩ := b
  simp
/-- Which of two places lies ahead. -/
def ordX (p q : Pt) : Int := if frmP p = true ∧ frmP q = true then cmpV (scaV (192 / p.M) p.X) (scaV (192 / q.M) q.X) else 0
def ordXE (p q : Pt) : Int := if frmP p = true ∧ frmP q = true then 0 else 3
theorem Pt.ext' {p q : Pt} (h1 : p.M = q.M) (h2 : p.X = q.X) : p = q := by
  obtain ⟨a, b⟩ := p
  obtain ⟨c, d⟩ := q
  simp only at h1 h2
  rw [h1, h2]
def srtV (l : List V3) : List V3 := insG cmpV l
def srtX (l : List Pt) : List Pt := insG ordX l
/-- Places in form, told in the same parts. -/
def srtP (l : List Pt) : Prop := ∃ m, ∀ p ∈ l, frmP p = true ∧ p.M = m
end Go.Fx
