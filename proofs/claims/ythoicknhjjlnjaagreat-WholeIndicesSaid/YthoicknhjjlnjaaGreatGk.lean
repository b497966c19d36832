/-
  Groups of maps: a part that is a group divides the whole.
-/
import Derived.Test.YthoicknhjjlnjaaGreatGg
set_option linter.unusedSimpArgs false
set_option linter.unusedVariables false
set_option linter.unusedSectionVars false
namespace Go.Fx
open Go

/-- Cut by what a function gives. -/
theorem sum_fibG {α β : Type} [DecidableEq β] (f : α → β) (c : Nat) : ∀ (ms : List β) (l : List α), ms.Nodup → (∀ o ∈ l, f o ∈ ms) → (∀ m ∈ ms, (l.filter fun o => decide (f o = m)).length = c) → l.length = ms.length * c
  | [], l, _, h, _ => by
    have : l = [] := List.eq_nil_iff_forall_not_mem.2 fun o ho => by cases h o ho
    subst this; simp
  | m :: ms, l, hn, h, hc => by
    rw [List.nodup_cons] at hn
    have h1 := sum_fibG f c ms (l.filter fun o => !decide (f o = m)) hn.2 (fun o ho => by
      obtain ⟨h2, h3⟩ := List.mem_filter.1 ho
      rcases List.mem_cons.1 (h o h2) with e | e
      · rw [decide_eq_true e] at h3; cases h3
      · exact e) (fun m' hm' => by
      rw [← hc m' (List.mem_cons_of_mem _ hm'), List.filter_filter]
      congr 1
      apply List.filter_congr
      intro o _
      by_cases e : f o = m'
      · have : ¬ f o = m := fun e2 => hn.1 (by rw [← e2, e]; exact hm')
        simp [e, this]
        intro e3; exact this (e.trans e3)
      · simp [e])
    have h2 : (l.filter fun o => decide (f o = m)).length + (l.filter fun o => !decide (f o = m)).length = l.length := by
      rw [← List.countP_eq_length_filter, ← List.countP_eq_length_filter]
      exact (List.length_eq_countP_add_countP (fun o => decide (f o = m)) (l := l)).symm ▸ by simp
    have h3 := hc m (List.mem_cons_self ..)
    rw [List.length_cons, Nat.succ_mul]
    omega
/-- Without what comes again. -/
def ddp {β : Type} [DecidableEq β] : List β → List β
  | [] => []
  | x :: r => if x ∈ r then ddp r else x :: ddp r
theorem ddp_mem {β : Type} [DecidableEq β] : ∀ {l : List β} {x : β}, x ∈ ddp l ↔ x ∈ l
  | [], x => Iff.rfl
  | y :: r, x => by
    unfold ddp
    split
    · rename_i h
      rw [ddp_mem, List.mem_cons]
      exact ⟨.inr, fun h' => h'.elim (fun e => by rw [e]; exact h) id⟩
    · rw [List.mem_cons, List.mem_cons, ddp_mem]
theorem ddp_nodup {β : Type} [DecidableEq β] : ∀ (l : List β), (ddp l).Nodup
  | [] => List.nodup_nil
  | y :: r => by
    unfold ddp
    split
    · exact ddp_nodup r
    · rename_i h
      exact List.nodup_cons.2 ⟨fun h' => h (ddp_mem.1 h'), ddp_nodup r⟩
theorem nodup_map {α β : Type} {f : α → β} {l : List α} (h : l.Nodup) (hi : ∀ x ∈ l, ∀ y ∈ l, f x = f y → x = y) : (l.map f).Nodup := by
  rw [List.nodup_iff_pairwise_ne, List.pairwise_map]
  rw [List.nodup_iff_pairwise_ne] at h
  exact List.Pairwise.imp_of_mem (fun {x y} hx hy hne he => hne (hi x hx y hy he)) h
theorem mul_cancel {g : List Op3} (h : chkE g = 0) {a x y : Op3} (ha : a ∈ g) (hx : x ∈ g) (hy : y ∈ g) (e : mulO a x = mulO a y) : x = y := by
  obtain ⟨hF, _, _, _⟩ := chk_grp h
  obtain ⟨c, hc, e1, _⟩ := grp_left h ha
  have h2 : mulO c (mulO a x) = mulO c (mulO a y) := by rw [e]
  rwa [← mulO_assoc, ← mulO_assoc, e1, (mulO_one (hF x hx).T).2, (mulO_one (hF y hy).T).2] at h2
/-- The maps of g behind which .. : a h. -/
def cosL (g h : List Op3) (a : Op3) : List Op3 := g.filter fun x => h.any fun b => eqO (mulO a b) x
theorem cosL_mem {g h : List Op3} {a x : Op3} : x ∈ cosL g h a ↔ x ∈ g ∧ ∃ b ∈ h, mulO a b = x := by
  unfold cosL
  rw [List.mem_filter, List.any_eq_true]
  constructor
  · rintro ⟨h1, b, hb, e⟩; exact ⟨h1, b, hb, eqO_iff.1 e⟩
  · rintro ⟨h1, b, hb, e⟩; exact ⟨h1, b, hb, eqO_iff.2 e⟩
section
variable {g h : List Op3} (hg : chkE g = 0) (hh : chkE h = 0) (hs : ∀ x ∈ h, x ∈ g)
include hg hh hs
theorem cosL_len {a : Op3} (ha : a ∈ g) : (cosL g h a).length = h.length := by
  obtain ⟨hF, hnd, _, hcl⟩ := chk_grp hg
  obtain ⟨_, hnd2, _, _⟩ := chk_grp hh
  have h1 : (h.map (mulO a)).Nodup := nodup_map hnd2 fun x hx y hy e => mul_cancel hg ha (hs x hx) (hs y hy) e
  have h2 : (cosL g h a).Perm (h.map (mulO a)) := perm_of_mem (hnd.filter _) h1 fun x => by
    rw [cosL_mem, List.mem_map]
    exact ⟨fun ⟨_, b, hb, e⟩ => ⟨b, hb, e⟩, fun ⟨b, hb, e⟩ => ⟨by rw [← e]; exact hcl a ha b (hs b hb), b, hb, e⟩⟩
  rw [h2.length_eq, List.length_map]
theorem cosL_self {a : Op3} (ha : a ∈ g) : a ∈ cosL g h a := by
  obtain ⟨hF, _, _, _⟩ := chk_grp hg
  exact cosL_mem.2 ⟨ha, oneO, (chk_grp hh).2.2.1, (mulO_one (hF a ha).T).1⟩
theorem cosL_eq {a b : Op3} (ha : a ∈ g) (hb : b ∈ g) : cosL g h b = cosL g h a ↔ b ∈ cosL g h a := by
  obtain ⟨hF, _, _, hcl⟩ := chk_grp hg
  obtain ⟨hF2, _, _, hcl2⟩ := chk_grp hh
  constructor
  · intro e; rw [← e]; exact cosL_self hg hh hs hb
  · intro hm
    obtain ⟨_, c, hc, e⟩ := cosL_mem.1 hm
    obtain ⟨d, hd, e1, e2⟩ := grp_left hh hc
    unfold cosL
    apply List.filter_congr
    intro x hx
    rw [Bool.eq_iff_iff, List.any_eq_true, List.any_eq_true]
    constructor
    · rintro ⟨y, hy, e3⟩
      refine ⟨mulO c y, hcl2 c hc y hy, eqO_iff.2 ?_⟩
      rw [← mulO_assoc, e]; exact eqO_iff.1 e3
    · rintro ⟨y, hy, e3⟩
      refine ⟨mulO d y, hcl2 d hd y hy, eqO_iff.2 ?_⟩
      rw [← e, ← mulO_assoc, mulO_assoc a, e2, (mulO_one (hF a ha).T).1]; exact eqO_iff.1 e3
/-- Lagrange. -/
theorem grp_div : ∃ k, g.length = k * h.length := by
  classical
  refine ⟨(ddp (g.map (cosL g h))).length, sum_fibG (cosL g h) h.length _ g (ddp_nodup _) (fun o ho => ddp_mem.2 (List.mem_map_of_mem ho)) fun m hm => ?_⟩
  obtain ⟨a, ha, rfl⟩ := List.mem_map.1 (ddp_mem.1 hm)
  have : (g.filter fun o => decide (cosL g h o = cosL g h a)) = cosL g h a := by
    conv => rhs; unfold cosL
    apply List.filter_congr
    intro o ho
    rw [Bool.eq_iff_iff, decide_eq_true_iff, cosL_eq hg hh hs ha ho, cosL_mem, List.any_eq_true]
    exact ⟨fun ⟨_, b, hb, e⟩ => ⟨b, hb, eqO_iff.2 e⟩, fun ⟨b, hb, e⟩ => ⟨ho, b, hb, eqO_iff.1 e⟩⟩
  rw [this]
  exact cosL_len hg hh hs ha
theorem grp_dvd : (h.length : Int) ∣ (g.length : Int) := by
  obtain ⟨k, e⟩ := grp_div hg hh hs
  exact ⟨(k : Int), by rw [e, Int.natCast_mul, Int.mul_comm]⟩
theorem grp_tmod : Int.tmod (g.length : Int) (h.length : Int) = 0 := Int.tmod_eq_zero_of_dvd (grp_dvd hg hh hs)
end
/-- What some maps of a group make is a group, a part of it. -/
theorem part_clo {g m : List Op3} (hg : chkE g = 0) (hm : ∀ o ∈ m, o ∈ g) (hl : m.length ≤ 192) : cloE m = 0 ∧ ∀ x ∈ cloL m, x ∈ g := by
  obtain ⟨hF, hnd, hone, hcl⟩ := chk_grp hg
  have hmF : ∀ o ∈ m, Frm o := fun o ho => hF o (hm o ho)
  have hz := gE_of hl hmF
  obtain ⟨a, e⟩ := outC_some (f := lfO) (l := m) (b := g) hF (chk_len hg) (fun x hx o ho => hcl o (hm o ho) x hx) 193 0 (a := [oneO]) (by simp) (fun o ho => by rw [List.mem_singleton.1 ho]; exact hone)
  have e : cloR lfO m = some a := e
  have hc : cloE m = 0 := by unfold cloE; rw [if_pos hz, e]
  refine ⟨hc, fun x hx => ?_⟩
  have hgen := ((clo_isG hc).mem x).1 hx
  clear hx
  induction hgen with
  | one => exact hone
  | mul ho _ ih => exact hcl _ (hm _ ho) _ ih
theorem clo_chk {l : List Op3} (h : cloE l = 0) : chkE (cloL l) = 0 := isG_chk (clo_isG h)
end Go.Fx
