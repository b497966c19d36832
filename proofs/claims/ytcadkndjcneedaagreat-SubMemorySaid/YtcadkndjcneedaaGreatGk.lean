/-
  Groups of maps: a part that is a group divides the whole.
-/
import Derived.Test.YtcadkndjcneedaaGreatGg
set_option linter.unusedSimpArgs false
set_option linter.unusedVariables false
set_option linter.unusedSectionVars false
namespace Go.Fx
open Go

/-- Without what comes again. -/
def ddp {β : Type} [DecidableEq β] : List β → List β
  | [] => []
  | x :: r => if x ∈ r then ddp r else x :: ddp r
theorem nodup_map {α β : Type} {f : α → β} {l : List α} (h : l.Nodup) (hi : ∀ x ∈ l, ∀ y ∈ l, f x = f y → x = y) : (l.map f).Nodup := by
  rw [List.nodup_iff_pairwise_ne, List.pairwise_map]
  rw [List.nodup_iff_pairwise_ne] at h
  exact List.Pairwise.imp_of_mem (fun {x y} hx hy hne he => hne (hi x hx y hy he)) h
theorem mul_cancel {g : List Op3} (h : chkE g = 0) {a x y : Op3} (ha : a ∈ g) (hx : x ∈ g) (hy : y ∈ g) (e : mulO a x = mulO a y) : x = y := by
  obtain ⟨hF, _, _, _⟩ := chk_grp h
  obtain ⟨c, hc, e1, _⟩ := grp_left h ha
  have h2 : mulO c (mulO a x) = mulO c (mulO a y) := by rw [e]
  rwa [← mulO_assoc, ← mulO_assoc, e1, (mulO_one (hF x hx).T).2, (mulO_one (hF y hy).T).2] at h2
/-- The maps of g behind which .. : a h. -/
def cosL (g h : List Op3) (a : Op3) : List Op3 := g.filter fun x => h.any fun b => eqO (mulO a b) x
section
variable {g h : List Op3} (hg : chkE g = 0) (hh : chkE h = 0) (hs : ∀ x ∈ h, x ∈ g)
include hg hh hs
end
theorem clo_chk {l : List Op3} (h : cloE l = 0) : chkE (cloL l) = 0 := isG_chk (clo_isG h)
end Go.Fx
