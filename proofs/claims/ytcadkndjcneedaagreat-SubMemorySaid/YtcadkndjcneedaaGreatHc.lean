/-
  Layer 6 in Lean: cuts of the places; what the statements ask.
-/
import Derived.Test.YtcadkndjcneedaaGreatHb
set_option linter.unusedSimpArgs false
set_option linter.unusedVariables false
set_option linter.unusedSectionVars false
namespace Go.Fx
open Go
/-! ### Groups by their lists -/
theorem grp_pw {g : List Op3} (hg : chkE g = 0) : g.Pairwise fun a b => cmpO a b < 0 := by
  have h' := stB_iff.1 (grpB_iff.1 (chk_zero hg).2).1
  rw [List.pairwise_iff_getElem]
  intro i j hi hj hij
  have := stP_lt h' hij hj
  simpa [List.getD, hi, hj] using this
theorem chk_of {m : List Op3} (h1 : m.length ≤ 192) (hF : ∀ o ∈ m, Frm o) (hP : m.Pairwise fun a b => cmpO a b < 0) (ho : oneO ∈ m) (hcl : ∀ a ∈ m, ∀ b ∈ m, mulO a b ∈ m) : chkE m = 0 := by
  have hs : stB m = true := stB_iff.2 fun k hk => by
    rw [List.pairwise_iff_getElem] at hP
    have := hP k (k + 1) (by omega) hk (by omega)
    simpa [List.getD, show k < m.length by omega, hk] using this
  unfold chkE
  rw [if_pos (gE_of h1 hF), if_pos (grpB_iff.2 ⟨hs, memO_iff.2 ho, clsB_iff.2 hcl⟩)]
theorem chk_filter {g : List Op3} (hg : chkE g = 0) {p : Op3 → Bool} (h1 : p oneO = true) (hcl : ∀ a ∈ g, ∀ b ∈ g, p a = true → p b = true → p (mulO a b) = true) : chkE (g.filter p) = 0 := by
  obtain ⟨hF, _, ho, hc⟩ := chk_grp hg
  have h192 := chk_len hg
  refine chk_of (Nat.le_trans (List.length_filter_le _ _) h192) (fun o ho => hF o (List.mem_filter.1 ho).1) ((grp_pw hg).filter _) (List.mem_filter.2 ⟨ho, h1⟩) fun a ha b hb => ?_
  obtain ⟨a1, a2⟩ := List.mem_filter.1 ha
  obtain ⟨b1, b2⟩ := List.mem_filter.1 hb
  exact List.mem_filter.2 ⟨hc a a1 b b1, hcl a a1 b b1 a2 b2⟩
theorem clo_55 {w : List Op3} (h1 : gE w = 0) (h2 : cloE w ≠ 0) : cloE w = 5 ∧ cloL w = [] := by
  cases h : cloR lfO w with
  | none => exact ⟨by unfold cloE; rw [if_pos h1, h], by unfold cloL; rw [if_pos h1, h]⟩
  | some a => exact absurd (by unfold cloE; rw [if_pos h1, h]) h2
theorem gen_has {l : List Op3} (hF : ∀ o ∈ l, Frm o) (h : cloE l = 0) {x : Op3} (hx : x ∈ l) : x ∈ cloL l := ((clo_isG h).mem x).2 (Gen.mem hF hx)
/-! ### Meet and Join -/
theorem me_chk {g h : List Op3} (hz : two g h = 0) : chkE (meL g h) = 0 := by
  obtain ⟨hg, hh⟩ := two_zero.1 hz
  obtain ⟨_, _, ho, hc⟩ := chk_grp hh
  unfold meL
  rw [if_pos hz]
  exact chk_filter hg (memO_iff.2 ho) fun a _ b _ h1 h2 => memO_iff.2 (hc a (memO_iff.1 h1) b (memO_iff.1 h2))
theorem jm_mem {g h : List Op3} {x : Op3} : x ∈ joM g h ↔ x ∈ g ∨ x ∈ h := by
  unfold joM
  rw [List.mem_append, List.mem_filter]
  constructor
  · rintro (h1 | ⟨h1, _⟩)
    · exact .inl h1
    · exact .inr h1
  · rintro (h1 | h1)
    · exact .inl h1
    · by_cases c : x ∈ g
      · exact .inl c
      · exact .inr ⟨h1, by rw [Bool.not_eq_true', Bool.eq_false_iff]; exact fun e => c (memO_iff.1 e)⟩
theorem jm_frm {g h : List Op3} (hg : chkE g = 0) (hh : chkE h = 0) : ∀ o ∈ joM g h, Frm o := fun o ho => (jm_mem.1 ho).elim ((chk_grp hg).1 o) ((chk_grp hh).1 o)
theorem jo_no {g h : List Op3} (hz : two g h = 0) (he : joE g h ≠ 0) : joE g h = 5 ∧ joL g h = [] := by
  obtain ⟨hg, hh⟩ := two_zero.1 hz
  unfold joE at he
  unfold joE joL
  rw [if_pos hz] at he
  rw [if_pos hz, if_pos hz]
  by_cases c : 192 < ((joM g h).length : Int)
  · rw [if_pos c, if_pos c]; exact ⟨rfl, rfl⟩
  · rw [if_neg c] at he
    rw [if_neg c, if_neg c]
    exact clo_55 (gE_of (by omega) (jm_frm hg hh)) he
theorem jo_ok {g h : List Op3} (hz : two g h = 0) (he : joE g h = 0) :
    chkE (joL g h) = 0 ∧ (∀ x ∈ g, x ∈ joL g h) ∧ (∀ x ∈ h, x ∈ joL g h) ∧ (g.length + h.length ≤ 192 → cloL (g ++ h) = joL g h ∧ cloE (g ++ h) = 0) := by
  obtain ⟨hg, hh⟩ := two_zero.1 hz
  have hF := jm_frm hg hh
  unfold joE at he
  unfold joL
  rw [if_pos hz] at he
  rw [if_pos hz]
  by_cases c : 192 < ((joM g h).length : Int)
  · rw [if_pos c] at he; cases he
  rw [if_neg c] at he
  rw [if_neg c]
  refine ⟨clo_chk he, fun x hx => gen_has hF he (jm_mem.2 (.inl hx)), fun x hx => gen_has hF he (jm_mem.2 (.inr hx)), fun hl => ?_⟩
  have hm : ∀ x, x ∈ g ++ h ↔ x ∈ joM g h := fun x => by rw [List.mem_append, jm_mem]
  have hF2 : ∀ o ∈ g ++ h, Frm o := fun o ho => hF o ((hm o).1 ho)
  exact isG_clo (clo_isG he) (gE_of (by rw [List.length_append]; exact hl) hF2) fun x => ⟨gen_sub fun o ho => Gen.mem hF2 ((hm o).2 ho), gen_sub fun o ho => Gen.mem hF ((hm o).1 ho)⟩
/-! ### Cuts -/
def paP (l : List (List Int)) (n : Int) : Prop := (0 ≤ n ∧ n ≤ 192 ∧ (l.length : Int) ≤ n) ∧ l.flatten.Nodup ∧ (∀ x : Int, x ∈ l.flatten ↔ 0 ≤ x ∧ x < n) ∧ (∀ c ∈ l, c ≠ [] ∧ c.Pairwise fun a b => a < b) ∧ l.Pairwise fun a b => a.getD 0 0 < b.getD 0 0
def lenC (l : List (List Int)) : Int := (l.length : Int)
def sen (n : Int) (s : List Int) : List Int := (List.range n.toNat).map fun x : Nat => if (x : Int) ∈ s then 1 else 0
def paO (l : List (List Int)) (n : Int) (u : List Int) (i : Int) : Prop := (0 ≤ i ∧ i ≤ (l.length : Int)) ∧ u = sen n (l.take i.toNat).flatten
def paI (l : List (List Int)) (n i : Int) (u : List Int) (j : Int) : Prop := (0 ≤ j ∧ j ≤ ((l.getD i.toNat []).length : Int)) ∧ u = sen n ((l.take i.toNat).flatten ++ (l.getD i.toNat []).take j.toNat)
def paMu (l : List (List Int)) (i j : Int) : Int := ((l.getD i.toNat []).length : Int) - j
theorem orb_head {f : Op3 → Nat → Nat} {H : List Op3} {N a : Nat} (ha : a < N) (hl : loN f H a = a) : (orbI f H N a).getD 0 0 = (a : Int) ∧ 0 < (orbI f H N a).length := by
  have hm : (a : Int) ∈ orbI f H N a := orb_mem.2 ⟨a, ha, hl, rfl⟩
  have hp := orb_lt (f := f) (H := H) (N := N) a
  have h0 : ∀ x ∈ orbI f H N a, (a : Int) ≤ x := fun x hx => by
    obtain ⟨k, h1, h2, h3⟩ := orb_mem.1 hx
    have := (foldl_min_le (imgN f H k) k).1
    have h4 : loN f H k ≤ k := this
    omega
  revert hm hp h0
  generalize orbI f H N a = c
  intro hm hp h0
  cases c with
  | nil => cases hm
  | cons y r =>
    refine ⟨?_, by simp⟩
    have h1 := h0 y (List.mem_cons_self ..)
    rw [List.pairwise_cons] at hp
    rcases List.mem_cons.1 hm with e | e
    · exact e.symm
    · have := hp.1 _ e
      omega
theorem fst_pw (f : Op3 → Nat → Nat) (H : List Op3) (N : Nat) : (fstN f H N).Pairwise fun a b => a < b := (List.pairwise_lt_range (n := N)).filter _
theorem pa_ct {f : Op3 → Nat → Nat} {H : List Op3} {N : Nat} (hA : Act H N f) (hN : N ≤ 192) : paP (ctL f H N N) (N : Int) := by
  have hfm : ∀ a ∈ fstN f H N, a < N ∧ loN f H a = a := fun a ha => (fst_mem hA).1 ha
  refine ⟨⟨by omega, by omega, by have := ctL_len hA N; omega⟩, ?_, fun x => ?_, fun c hc => ?_, ?_⟩
  · show (ctL f H N N).flatten.Pairwise _
    rw [List.pairwise_flatten]
    constructor
    · intro c hc
      obtain ⟨a, _, rfl⟩ := List.mem_map.1 hc
      exact orb_nodup a
    · unfold ctL
      rw [List.pairwise_map]
      refine (fst_pw f H N).imp fun {a b} hab x hx y hy e => ?_
      obtain ⟨k, _, h2, h3⟩ := orb_mem.1 hx
      obtain ⟨m, _, g2, g3⟩ := orb_mem.1 hy
      have : k = m := by omega
      subst this; omega
  · rw [List.mem_flatten]
    constructor
    · rintro ⟨c, hc, hx⟩
      obtain ⟨a, _, rfl⟩ := List.mem_map.1 hc
      obtain ⟨k, h1, _, h3⟩ := orb_mem.1 hx
      omega
    · rintro ⟨h1, h2⟩
      exact ⟨_, List.mem_map.2 ⟨_, fst_lo hA (show x.toNat < N by omega), rfl⟩, orb_mem.2 ⟨x.toNat, by omega, rfl, by omega⟩⟩
  · obtain ⟨a, ha, rfl⟩ := List.mem_map.1 hc
    obtain ⟨h1, h2⟩ := hfm a ha
    refine ⟨fun e => ?_, orb_lt a⟩
    have := (orb_head h1 h2).2
    rw [e] at this
    exact absurd this (by simp)
  · unfold ctL
    rw [List.pairwise_map]
    refine (fst_pw f H N).imp_of_mem fun {a b} ha hb hab => ?_
    rw [(orb_head (hfm a ha).1 (hfm a ha).2).1, (orb_head (hfm b hb).1 (hfm b hb).2).1]
    omega
section
variable {l : List (List Int)} {n : Int} (hP : paP l n)
include hP
theorem pa_at {i : Int} (h0 : 0 ≤ i) (hi : i < (l.length : Int)) : l.getD i.toNat [] ∈ l ∧ inB (l.getD i.toNat []) 0 ∧ (l.getD i.toNat []).Pairwise (fun a b => a < b) ∧ (∀ x ∈ l.getD i.toNat [], 0 ≤ x ∧ x < n) := by
  have hm := getD_mem h0 hi ([] : List Int)
  obtain ⟨h1, h2⟩ := hP.2.2.2.1 _ hm
  refine ⟨hm, ⟨Int.le_refl _, ?_⟩, h2, fun x hx => (hP.2.2.1 x).1 (List.mem_flatten.2 ⟨_, hm, hx⟩)⟩
  cases e : l.getD i.toNat [] with
  | nil => exact absurd e h1
  | cons a b => simp
end
/-! ### Cosets cut the group -/
def inQ (c : List Int) (k : Int) (b : Bool) (m : Int) : Prop := (0 ≤ m ∧ m ≤ (c.length : Int)) ∧ b = decide (k ∈ c.take m.toNat)
section
variable {g h : List Op3} (hg : chkE g = 0) (hh : chkE h = 0) (hs : ∀ o ∈ h, o ∈ g)
include hg hh hs
theorem csC_eq : csC g h = ctL (cosA g) h g.length g.length := if_pos (bo_of hg hh hs)
theorem csC_pa : paP (csC g h) (g.length : Int) := by rw [csC_eq hg hh hs]; exact pa_ct (cos_act hg hh hs) (chk_len hg)
end
end Go.Fx
