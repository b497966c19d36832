/-
  The orders of maps, columns and places; slices.SortFunc at maps.
-/
import Derived.Test.YthoicknhjjlnjaaGreatGc
import Derived.Test.YthoicknhjjlnjaaGreatSo
set_option linter.unusedSimpArgs false
set_option linter.unusedVariables false
set_option linter.unusedSectionVars false
namespace Go.Fx
open Go Go.Proofs Go.Shelf Go.RowKit Go.Lib Go.Sort

theorem toO : TO (fun _ : Op3 => True) cmpO where
  anti a b _ _ := by have h1 := cmpO_anti a b; have h2 := cmpO_anti b a; omega
  zero a b _ _ h := cmpO_zero.1 h
  trans a b d _ _ _ h1 h2 := (cmpO_trans a b d).1 h1 h2
theorem putG_putO (o : Op3) : ∀ l : List Op3, putG cmpO l o = putO l o
  | [] => rfl
  | x :: r => by unfold putG putO; rw [putG_putO o r]
theorem insG_sortO : insG cmpO = sortO := by
  funext l
  have : putG cmpO = putO := by funext l o; exact putG_putO o l
  unfold insG sortO insO
  rw [this]
theorem sort_mutO {P : Program} {ρ : Ren} (L : SlLaysF0.n6 P ρ) (aE : ∀ w, (isAgg (ρ.t 24)).run P w = .ok true w) (zE : ∀ w, (Go.sizeOf (ρ.t 24)).run P w = .ok 12 w) {g : Nat} (eg : ∀ args w, (callFunc g args).run P w = .ok (.enter g args) w) (hC : Sound P g (cmpCF .op cmpO)) :
    MutSound P (ρ.f 6) ⟨.op, some g, sortO, fun _ => True⟩ := fun w l v _ hl => by
  have h := sort_runF (f := .op) (Pf := fun _ => True) toO L aE zE eg hC w l v (fun _ _ => trivial) hl
  have hG : @Eq (List Fl.op.ty → List Fl.op.ty) (insG (α := Fl.op.ty) cmpO) sortO := insG_sortO
  rw [hG] at h
  exact h
theorem cmpV_lex (a b : V3) : cmpV a b = lexL [a.x, a.y, a.z] [b.x, b.y, b.z] := rfl
theorem cmpV_zero {a b : V3} : cmpV a b = 0 ↔ a = b := by
  rw [cmpV_lex, lexL_zero (a := [a.x, a.y, a.z]) (b := [b.x, b.y, b.z]) rfl]
  obtain ⟨a1, a2, a3⟩ := a
  obtain ⟨b1, b2, b3⟩ := b
  simp
theorem cmpV_anti (a b : V3) : cmpV b a = -cmpV a b := by rw [cmpV_lex, cmpV_lex]; exact lexL_anti _ _
theorem cmpV_trans (a b c : V3) : (cmpV a b ≤ 0 → cmpV b c ≤ 0 → cmpV a c ≤ 0) ∧ (cmpV a b < 0 → cmpV b c ≤ 0 → cmpV a c < 0) ∧ (cmpV a b ≤ 0 → cmpV b c < 0 → cmpV a c < 0) := by
  rw [cmpV_lex, cmpV_lex, cmpV_lex]; exact lexL_trans (a := [a.x, a.y, a.z]) (b := [b.x, b.y, b.z]) (c := [c.x, c.y, c.z]) rfl rfl
theorem toV : TO (fun _ : V3 => True) cmpV where
  anti a b _ _ := by have h1 := cmpV_anti a b; have h2 := cmpV_anti b a; omega
  zero a b _ _ h := cmpV_zero.1 h
  trans a b d _ _ _ h1 h2 := (cmpV_trans a b d).1 h1 h2
theorem cmpE_sca {k x y z w : Int} (hk : 0 < k) (h : z = w) : cmpE (k * x) (k * y) z = cmpE x y w := by
  subst h
  unfold cmpE
  by_cases h1 : x < y
  · rw [if_pos h1, if_pos (Int.mul_lt_mul_of_pos_left h1 hk)]
  · rw [if_neg h1, if_neg (fun h => h1 (Int.lt_of_mul_lt_mul_left h (Int.le_of_lt hk)))]
    by_cases h2 : y < x
    · rw [if_pos h2, if_pos (Int.mul_lt_mul_of_pos_left h2 hk)]
    · rw [if_neg h2, if_neg (fun h => h2 (Int.lt_of_mul_lt_mul_left h (Int.le_of_lt hk)))]
theorem cmpV_sca {k : Int} (hk : 0 < k) (a b : V3) : cmpV (scaV k a) (scaV k b) = cmpV a b :=
  cmpE_sca hk (cmpE_sca hk (cmpE_sca hk rfl))
/-- Which of two places lies ahead. -/
def ordX (p q : Pt) : Int := if frmP p = true ∧ frmP q = true then cmpV (scaV (192 / p.M) p.X) (scaV (192 / q.M) q.X) else 0
def ordXE (p q : Pt) : Int := if frmP p = true ∧ frmP q = true then 0 else 3
theorem ordX_of {p q : Pt} (hp : frmP p = true) (hq : frmP q = true) (hm : p.M = q.M) : ordX p q = cmpV p.X q.X := by
  unfold ordX
  rw [if_pos ⟨hp, hq⟩, hm]
  refine cmpV_sca ?_ _ _
  rcases (frmP_iff.1 hq).1 with e | e | e | e <;> rw [e] <;> decide
theorem Pt.ext' {p q : Pt} (h1 : p.M = q.M) (h2 : p.X = q.X) : p = q := by
  obtain ⟨a, b⟩ := p
  obtain ⟨c, d⟩ := q
  simp only at h1 h2
  rw [h1, h2]
theorem toX (m : Int) : TO (fun p : Pt => frmP p = true ∧ p.M = m) ordX where
  anti a b ha hb := by
    rw [ordX_of ha.1 hb.1 (ha.2.trans hb.2.symm), ordX_of hb.1 ha.1 (hb.2.trans ha.2.symm)]
    exact toV.anti _ _ trivial trivial
  zero a b ha hb h := by
    rw [ordX_of ha.1 hb.1 (ha.2.trans hb.2.symm)] at h
    exact Pt.ext' (ha.2.trans hb.2.symm) (cmpV_zero.1 h)
  trans a b d ha hb hd h1 h2 := by
    rw [ordX_of ha.1 hb.1 (ha.2.trans hb.2.symm)] at h1
    rw [ordX_of hb.1 hd.1 (hb.2.trans hd.2.symm)] at h2
    rw [ordX_of ha.1 hd.1 (ha.2.trans hd.2.symm)]
    exact (cmpV_trans _ _ _).1 h1 h2
def srtV (l : List V3) : List V3 := insG cmpV l
def srtX (l : List Pt) : List Pt := insG ordX l
/-- Places in form, told in the same parts. -/
def srtP (l : List Pt) : Prop := ∃ m, ∀ p ∈ l, frmP p = true ∧ p.M = m
theorem sort_mutV {P : Program} {ρ : Ren} (L : SlLaysF0.n6 P ρ) (aE : ∀ w, (isAgg (ρ.t 24)).run P w = .ok true w) (zE : ∀ w, (Go.sizeOf (ρ.t 24)).run P w = .ok 3 w) {g : Nat} (eg : ∀ args w, (callFunc g args).run P w = .ok (.enter g args) w) (hC : Sound P g (cmpCF .vec cmpV)) :
    MutSound P (ρ.f 6) ⟨.vec, some g, srtV, fun _ => True⟩ := fun w l v _ hl =>
  sort_runF (f := .vec) (Pf := fun _ => True) toV L aE zE eg hC w l v (fun _ _ => trivial) hl
theorem sort_mutX {P : Program} {ρ : Ren} (L : SlLaysF0.n6 P ρ) (aE : ∀ w, (isAgg (ρ.t 24)).run P w = .ok true w) (zE : ∀ w, (Go.sizeOf (ρ.t 24)).run P w = .ok 4 w) {g : Nat} (eg : ∀ args w, (callFunc g args).run P w = .ok (.enter g args) w) (hC : Sound P g (cmpCF .pt ordX)) :
    MutSound P (ρ.f 6) ⟨.pt, some g, srtX, srtP⟩ := fun w l v hp hl => by
  obtain ⟨m, hp⟩ := hp
  exact sort_runF (f := .pt) (Pf := fun p => frmP p = true ∧ p.M = m) (toX m) L aE zE eg hC w l v hp hl
end Go.Fx
