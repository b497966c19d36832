/-
  Layer 6 in Lean: cuts of the places; what the statements ask.
-/
import Derived.Test.YtkmbomopkojgfaaGreatHb
set_option linter.unusedSimpArgs false
set_option linter.unusedVariables false
set_option linter.unusedSectionVars false
namespace Go.Fx
open Go
/-! ### Groups by their lists -/
theorem grp_pw {g : List Op3} (hg : chkE g = 0) : g.Pairwise fun a b => cmpO a b < 0 := by
  have h' := stB_iff.1 (grpB_iff.1 (chk_zero hg).2).1
  rw [List.pairwise_iff_getElem]
  intro i j hi hj hij
  have := stP_lt h' hij hj
  simpa [List.getD, hi, hj] using this
theorem chk_of {m : List Op3} (h1 : m.length ≤ 192) (hF : ∀ o ∈ m, Frm o) (hP : m.Pairwise fun a b => cmpO a b < 0) (ho : oneO ∈ m) (hcl : ∀ a ∈ m, ∀ b ∈ m, mulO a b ∈ m) : chkE m = 0 := by
  have hs : stB m = true := stB_iff.2 fun k hk => by
    rw [List.pairwise_iff_getElem] at hP
    have := hP k (k + 1) (by omega) hk (by omega)
    simpa [List.getD, show k < m.length by omega, hk] using this
  unfold chkE
  rw [if_pos (gE_of h1 hF), if_pos (grpB_iff.2 ⟨hs, memO_iff.2 ho, clsB_iff.2 hcl⟩)]
theorem chk_filter {g : List Op3} (hg : chkE g = 0) {p : Op3 → Bool} (h1 : p oneO = true) (hcl : ∀ a ∈ g, ∀ b ∈ g, p a = true → p b = true → p (mulO a b) = true) : chkE (g.filter p) = 0 := by
  obtain ⟨hF, _, ho, hc⟩ := chk_grp hg
  have h192 := chk_len hg
  refine chk_of (Nat.le_trans (List.length_filter_le _ _) h192) (fun o ho => hF o (List.mem_filter.1 ho).1) ((grp_pw hg).filter _) (List.mem_filter.2 ⟨ho, h1⟩) fun a ha b hb => ?_
  obtain ⟨a1, a2⟩ := List.mem_filter.1 ha
  obtain ⟨b1, b2⟩ := List.mem_filter.1 hb
  exact List.mem_filter.2 ⟨hc a a1 b b1, hcl a a1 b b1 a2 b2⟩
theorem grp_eq {g h : List Op3} (hg : chkE g = 0) (hh : chkE h = 0) (hm : ∀ x, x ∈ g ↔ x ∈ h) : g = h :=
  ord_unique ((grp_pw hg).imp fun h => Int.le_of_lt h) ((grp_pw hh).imp fun h => Int.le_of_lt h) (perm_of_mem (chk_grp hg).2.1 (chk_grp hh).2.1 hm)
theorem isG_grp {g : List Op3} (hg : chkE g = 0) : IsG g g := by
  obtain ⟨hF, hnd, ho, hc⟩ := chk_grp hg
  refine ⟨hnd, chk_len hg, hF, (grp_pw hg).imp fun h => Int.le_of_lt h, fun x => ⟨Gen.mem hF, fun h => ?_⟩⟩
  induction h with
  | one => exact ho
  | mul h1 _ ih => exact hc _ h1 _ ih
theorem clo_self {g : List Op3} (hg : chkE g = 0) : cloL g = g ∧ cloE g = 0 := isG_clo (isG_grp hg) (gE_of (chk_len hg) (chk_grp hg).1) fun _ => Iff.rfl
theorem clo_55 {w : List Op3} (h1 : gE w = 0) (h2 : cloE w ≠ 0) : cloE w = 5 ∧ cloL w = [] := by
  cases h : cloR lfO w with
  | none => exact ⟨by unfold cloE; rw [if_pos h1, h], by unfold cloL; rw [if_pos h1, h]⟩
  | some a => exact absurd (by unfold cloE; rw [if_pos h1, h]) h2
theorem gen_has {l : List Op3} (hF : ∀ o ∈ l, Frm o) (h : cloE l = 0) {x : Op3} (hx : x ∈ l) : x ∈ cloL l := ((clo_isG h).mem x).2 (Gen.mem hF hx)
theorem fnd_idx {g : List Op3} {o : Op3} (hc : chkE g = 0) (ho : o ∈ g) : fndI g o = idxO g o := by
  have hf : gE [o] = 0 := gE_of (by simp) fun p hp => by rw [List.mem_singleton.1 hp]; exact (chk_grp hc).1 o ho
  have hi : ¬ idxO g o < 0 := fun h => (idxD_neg.1 h) ho
  unfold fndI fndF
  rw [hc, hf]
  simp [hi]
theorem fnd_iff {g : List Op3} {o : Op3} (hc : chkE g = 0) (ho : Frm o) : fndE g o = 0 ↔ o ∈ g := by
  refine ⟨fun h => Classical.byContradiction fun hn => ?_, fnd_ok hc⟩
  have hf : gE [o] = 0 := gE_of (by simp) fun p hp => by rw [List.mem_singleton.1 hp]; exact ho
  have hi : idxO g o < 0 := idxD_neg.2 hn
  unfold fndE fndF at h
  rw [hc, hf] at h
  simp [hi] at h
theorem si_of {g h : List Op3} (hg : chkE g = 0) (hh : chkE h = 0) (hs : ∀ o ∈ h, o ∈ g) : siB g h = true ∧ two g h = 0 := by
  have hz := two_zero.2 ⟨hg, hh⟩
  unfold siB
  rw [if_pos hz]
  exact ⟨wi_iff.2 hs, hz⟩
/-! ### Meet and Join -/
theorem me_mem {g h : List Op3} (hz : two g h = 0) {x : Op3} : x ∈ meL g h ↔ x ∈ g ∧ x ∈ h := by
  unfold meL
  rw [if_pos hz, List.mem_filter, memO_iff]
theorem me_chk {g h : List Op3} (hz : two g h = 0) : chkE (meL g h) = 0 := by
  obtain ⟨hg, hh⟩ := two_zero.1 hz
  obtain ⟨_, _, ho, hc⟩ := chk_grp hh
  unfold meL
  rw [if_pos hz]
  exact chk_filter hg (memO_iff.2 ho) fun a _ b _ h1 h2 => memO_iff.2 (hc a (memO_iff.1 h1) b (memO_iff.1 h2))
theorem jm_mem {g h : List Op3} {x : Op3} : x ∈ joM g h ↔ x ∈ g ∨ x ∈ h := by
  unfold joM
  rw [List.mem_append, List.mem_filter]
  constructor
  · rintro (h1 | ⟨h1, _⟩)
    · exact .inl h1
    · exact .inr h1
  · rintro (h1 | h1)
    · exact .inl h1
    · by_cases c : x ∈ g
      · exact .inl c
      · exact .inr ⟨h1, by rw [Bool.not_eq_true', Bool.eq_false_iff]; exact fun e => c (memO_iff.1 e)⟩
theorem jm_frm {g h : List Op3} (hg : chkE g = 0) (hh : chkE h = 0) : ∀ o ∈ joM g h, Frm o := fun o ho => (jm_mem.1 ho).elim ((chk_grp hg).1 o) ((chk_grp hh).1 o)
theorem jo_no {g h : List Op3} (hz : two g h = 0) (he : joE g h ≠ 0) : joE g h = 5 ∧ joL g h = [] := by
  obtain ⟨hg, hh⟩ := two_zero.1 hz
  unfold joE at he
  unfold joE joL
  rw [if_pos hz] at he
  rw [if_pos hz, if_pos hz]
  by_cases c : 192 < ((joM g h).length : Int)
  · rw [if_pos c, if_pos c]; exact ⟨rfl, rfl⟩
  · rw [if_neg c] at he
    rw [if_neg c, if_neg c]
    exact clo_55 (gE_of (by omega) (jm_frm hg hh)) he
theorem jo_ok {g h : List Op3} (hz : two g h = 0) (he : joE g h = 0) :
    chkE (joL g h) = 0 ∧ (∀ x ∈ g, x ∈ joL g h) ∧ (∀ x ∈ h, x ∈ joL g h) ∧ (g.length + h.length ≤ 192 → cloL (g ++ h) = joL g h ∧ cloE (g ++ h) = 0) := by
  obtain ⟨hg, hh⟩ := two_zero.1 hz
  have hF := jm_frm hg hh
  unfold joE at he
  unfold joL
  rw [if_pos hz] at he
  rw [if_pos hz]
  by_cases c : 192 < ((joM g h).length : Int)
  · rw [if_pos c] at he; cases he
  rw [if_neg c] at he
  rw [if_neg c]
  refine ⟨clo_chk he, fun x hx => gen_has hF he (jm_mem.2 (.inl hx)), fun x hx => gen_has hF he (jm_mem.2 (.inr hx)), fun hl => ?_⟩
  have hm : ∀ x, x ∈ g ++ h ↔ x ∈ joM g h := fun x => by rw [List.mem_append, jm_mem]
  have hF2 : ∀ o ∈ g ++ h, Frm o := fun o ho => hF o ((hm o).1 ho)
  exact isG_clo (clo_isG he) (gE_of (by rw [List.length_append]; exact hl) hF2) fun x => ⟨gen_sub fun o ho => Gen.mem hF2 ((hm o).2 ho), gen_sub fun o ho => Gen.mem hF ((hm o).1 ho)⟩
theorem jo_part {g h : List Op3} (hg : chkE g = 0) (hh : chkE h = 0) (hs : ∀ o ∈ h, o ∈ g) : joE g h = 0 ∧ joL g h = g := by
  have e : joM g h = g := by
    unfold joM
    rw [List.filter_eq_nil_iff.2 fun o ho => by simp [memO_iff.2 (hs o ho)], List.append_nil]
  have hz := two_zero.2 ⟨hg, hh⟩
  have h192 := chk_len hg
  unfold joE joL
  rw [if_pos hz, if_pos hz, e, if_neg (by omega), if_neg (by omega)]
  exact ⟨(clo_self hg).2, (clo_self hg).1⟩
theorem me_part {g h : List Op3} (hg : chkE g = 0) (hh : chkE h = 0) (hs : ∀ o ∈ h, o ∈ g) : meL g h = h := by
  have hz := two_zero.2 ⟨hg, hh⟩
  exact grp_eq (me_chk hz) hh fun x => by rw [me_mem hz]; exact ⟨fun h => h.2, fun h => ⟨hs x h, h⟩⟩
theorem grp_w {g h : List Op3} (hg : chkE g = 0) (hh : chkE h = 0) (hs : ∀ o ∈ h, o ∈ g) : (h.length : Int) ≠ 0 ∧ Int.tmod (g.length : Int) (h.length : Int) = 0 := by
  have := List.length_pos_of_mem (chk_grp hh).2.2.1
  exact ⟨by omega, grp_tmod hg hh hs⟩
/-! ### Cuts -/
def paP (l : List (List Int)) (n : Int) : Prop := (0 ≤ n ∧ n ≤ 192 ∧ (l.length : Int) ≤ n) ∧ l.flatten.Nodup ∧ (∀ x : Int, x ∈ l.flatten ↔ 0 ≤ x ∧ x < n) ∧ (∀ c ∈ l, c ≠ [] ∧ c.Pairwise fun a b => a < b) ∧ l.Pairwise fun a b => a.getD 0 0 < b.getD 0 0
def lenC (l : List (List Int)) : Int := (l.length : Int)
def sen (n : Int) (s : List Int) : List Int := (List.range n.toNat).map fun x : Nat => if (x : Int) ∈ s then 1 else 0
def paO (l : List (List Int)) (n : Int) (u : List Int) (i : Int) : Prop := (0 ≤ i ∧ i ≤ (l.length : Int)) ∧ u = sen n (l.take i.toNat).flatten
def paI (l : List (List Int)) (n i : Int) (u : List Int) (j : Int) : Prop := (0 ≤ j ∧ j ≤ ((l.getD i.toNat []).length : Int)) ∧ u = sen n ((l.take i.toNat).flatten ++ (l.getD i.toNat []).take j.toNat)
def paMu (l : List (List Int)) (i j : Int) : Int := ((l.getD i.toNat []).length : Int) - j
theorem orb_head {f : Op3 → Nat → Nat} {H : List Op3} {N a : Nat} (ha : a < N) (hl : loN f H a = a) : (orbI f H N a).getD 0 0 = (a : Int) ∧ 0 < (orbI f H N a).length := by
  have hm : (a : Int) ∈ orbI f H N a := orb_mem.2 ⟨a, ha, hl, rfl⟩
  have hp := orb_lt (f := f) (H := H) (N := N) a
  have h0 : ∀ x ∈ orbI f H N a, (a : Int) ≤ x := fun x hx => by
    obtain ⟨k, h1, h2, h3⟩ := orb_mem.1 hx
    have := (foldl_min_le (imgN f H k) k).1
    have h4 : loN f H k ≤ k := this
    omega
  revert hm hp h0
  generalize orbI f H N a = c
  intro hm hp h0
  cases c with
  | nil => cases hm
  | cons y r =>
    refine ⟨?_, by simp⟩
    have h1 := h0 y (List.mem_cons_self ..)
    rw [List.pairwise_cons] at hp
    rcases List.mem_cons.1 hm with e | e
    · exact e.symm
    · have := hp.1 _ e
      omega
theorem fst_pw (f : Op3 → Nat → Nat) (H : List Op3) (N : Nat) : (fstN f H N).Pairwise fun a b => a < b := (List.pairwise_lt_range (n := N)).filter _
theorem pa_ct {f : Op3 → Nat → Nat} {H : List Op3} {N : Nat} (hA : Act H N f) (hN : N ≤ 192) : paP (ctL f H N N) (N : Int) := by
  have hfm : ∀ a ∈ fstN f H N, a < N ∧ loN f H a = a := fun a ha => (fst_mem hA).1 ha
  refine ⟨⟨by omega, by omega, by have := ctL_len hA N; omega⟩, ?_, fun x => ?_, fun c hc => ?_, ?_⟩
  · show (ctL f H N N).flatten.Pairwise _
    rw [List.pairwise_flatten]
    constructor
    · intro c hc
      obtain ⟨a, _, rfl⟩ := List.mem_map.1 hc
      exact orb_nodup a
    · unfold ctL
      rw [List.pairwise_map]
      refine (fst_pw f H N).imp fun {a b} hab x hx y hy e => ?_
      obtain ⟨k, _, h2, h3⟩ := orb_mem.1 hx
      obtain ⟨m, _, g2, g3⟩ := orb_mem.1 hy
      have : k = m := by omega
      subst this; omega
  · rw [List.mem_flatten]
    constructor
    · rintro ⟨c, hc, hx⟩
      obtain ⟨a, _, rfl⟩ := List.mem_map.1 hc
      obtain ⟨k, h1, _, h3⟩ := orb_mem.1 hx
      omega
    · rintro ⟨h1, h2⟩
      exact ⟨_, List.mem_map.2 ⟨_, fst_lo hA (show x.toNat < N by omega), rfl⟩, orb_mem.2 ⟨x.toNat, by omega, rfl, by omega⟩⟩
  · obtain ⟨a, ha, rfl⟩ := List.mem_map.1 hc
    obtain ⟨h1, h2⟩ := hfm a ha
    refine ⟨fun e => ?_, orb_lt a⟩
    have := (orb_head h1 h2).2
    rw [e] at this
    exact absurd this (by simp)
  · unfold ctL
    rw [List.pairwise_map]
    refine (fst_pw f H N).imp_of_mem fun {a b} ha hb hab => ?_
    rw [(orb_head (hfm a ha).1 (hfm a ha).2).1, (orb_head (hfm b hb).1 (hfm b hb).2).1]
    omega
theorem sen_len {n : Int} (s : List Int) : (sen n s).length = n.toNat := by unfold sen; simp
theorem sen_at {n : Int} {s : List Int} {x : Int} (h0 : 0 ≤ x) (hx : x < n) : inB (sen n s) x ∧ (sen n s).getD x.toNat 0 = if x ∈ s then 1 else 0 := by
  refine ⟨⟨h0, by rw [sen_len]; omega⟩, ?_⟩
  unfold sen
  rw [rg_at _ (by omega), show ((x.toNat : Nat) : Int) = x by omega]
theorem sen_0 (n : Int) (hn : 0 ≤ n) : sen n [] = lrep n 0 := by
  unfold sen lrep
  refine (rg_ext 0 (by simp) fun i hi => ?_).symm
  rw [List.getD_eq_getElem?_getD, List.getElem?_replicate]
  simp [hi]
theorem sen_set {n : Int} {s : List Int} {x : Int} (h0 : 0 ≤ x) (hx : x < n) : lset (sen n s) x 1 = sen n (s ++ [x]) := by
  unfold lset sen
  refine rg_set (by omega) ?_ fun j hj hne => ?_
  · rw [if_pos (List.mem_append.2 (.inr (by rw [List.mem_singleton]; omega)))]
  · have : ((j : Int) ∈ s ++ [x]) ↔ (j : Int) ∈ s := by
      rw [List.mem_append, List.mem_singleton]
      exact ⟨fun h => h.elim id fun h => by omega, .inl⟩
    by_cases c : (j : Int) ∈ s
    · rw [if_pos (this.2 c), if_pos c]
    · rw [if_neg fun h => c (this.1 h), if_neg c]
section
variable {l : List (List Int)} {n : Int} (hP : paP l n)
include hP
theorem pa_at {i : Int} (h0 : 0 ≤ i) (hi : i < (l.length : Int)) : l.getD i.toNat [] ∈ l ∧ inB (l.getD i.toNat []) 0 ∧ (l.getD i.toNat []).Pairwise (fun a b => a < b) ∧ (∀ x ∈ l.getD i.toNat [], 0 ≤ x ∧ x < n) := by
  have hm := getD_mem h0 hi ([] : List Int)
  obtain ⟨h1, h2⟩ := hP.2.2.2.1 _ hm
  refine ⟨hm, ⟨Int.le_refl _, ?_⟩, h2, fun x hx => (hP.2.2.1 x).1 (List.mem_flatten.2 ⟨_, hm, hx⟩)⟩
  cases e : l.getD i.toNat [] with
  | nil => exact absurd e h1
  | cons a b => simp
theorem pa_head {i : Int} (h0 : 0 < i) (hi : i < (l.length : Int)) : w64 (i - 1) = i - 1 ∧ inB l (i - 1) ∧ inB (l.getD (i - 1).toNat []) 0 ∧ (l.getD (i - 1).toNat []).getD 0 0 < (l.getD i.toNat []).getD 0 0 := by
  have hn := hP.1
  have h1 := hP.2.2.2.2
  rw [List.pairwise_iff_getElem] at h1
  have a1 : (i - 1).toNat < l.length := by omega
  have a2 : i.toNat < l.length := by omega
  have h2 := h1 (i - 1).toNat i.toNat a1 a2 (by omega)
  refine ⟨w64_id (by omega) (by omega), ⟨by omega, by omega⟩, (pa_at hP (by omega) (by omega)).2.1, ?_⟩
  have q1 : l.getD (i - 1).toNat [] = l[(i - 1).toNat] := by rw [List.getD_eq_getElem?_getD, List.getElem?_eq_getElem a1]; rfl
  have q2 : l.getD i.toNat [] = l[i.toNat] := by rw [List.getD_eq_getElem?_getD, List.getElem?_eq_getElem a2]; rfl
  rw [q1, q2]
  exact h2
theorem pa_step {i j : Int} {u : List Int} (i0 : 0 ≤ i) (hi : i < (l.length : Int)) (hI : paI l n i u j) (hj : j < ((l.getD i.toNat []).length : Int)) {p : Int} (hp : p = (l.getD i.toNat []).getD j.toNat 0) :
    inB (l.getD i.toNat []) j ∧ (0 ≤ p ∧ p < n) ∧ inB u p ∧ u.getD p.toNat 0 = 0 ∧ (0 < j → w64 (j - 1) = j - 1 ∧ inB (l.getD i.toNat []) (j - 1) ∧ (l.getD i.toNat []).getD (j - 1).toNat 0 < p) ∧
    paI l n i (lset u p (w64 (u.getD p.toNat 0 + 1))) (w64 (j + 1)) ∧ (decide (0 ≤ paMu l i (w64 (j + 1))) = true ∧ decide (paMu l i (w64 (j + 1)) < paMu l i j) = true) := by
  obtain ⟨⟨j0, j1⟩, hu⟩ := hI
  obtain ⟨hm, c0, cP, cR⟩ := pa_at hP i0 hi
  have hn := hP.1
  have hpm : p ∈ l.getD i.toNat [] := by rw [hp]; exact getD_mem j0 hj 0
  have hpr := cR p hpm
  have hlen : ((l.getD i.toNat []).length : Int) ≤ 192 := by
    have h1 : (l.getD i.toNat []).Nodup := cP.imp fun h => by omega
    have h2 := nodup_le (m := (List.range n.toNat).map fun k : Nat => (k : Int)) h1 fun x hx => by
      have := cR x hx
      exact List.mem_map.2 ⟨x.toNat, List.mem_range.2 (by omega), by omega⟩
    rw [List.length_map, List.length_range] at h2
    omega
  have hw : w64 (j + 1) = j + 1 := w64_id (by omega) (by omega)
  have hnew : p ∉ (l.take i.toNat).flatten ++ (l.getD i.toNat []).take j.toNat := fun hc => by
    have hfl := hP.2.1
    have e1 : l = l.take i.toNat ++ l.getD i.toNat [] :: l.drop (i.toNat + 1) := by
      have a2 : i.toNat < l.length := by omega
      have : l.getD i.toNat [] = l[i.toNat] := by simp [List.getD, a2]
      rw [this, ← List.drop_eq_getElem_cons a2, List.take_append_drop]
    have jn : j.toNat < (l.getD i.toNat []).length := by omega
    have e2 : l.getD i.toNat [] = (l.getD i.toNat []).take j.toNat ++ p :: (l.getD i.toNat []).drop (j.toNat + 1) := by
      have : p = (l.getD i.toNat [])[j.toNat] := by rw [hp]; simp only [List.getD_eq_getElem?_getD (l := l.getD i.toNat []), List.getElem?_eq_getElem jn, Option.getD_some]
      rw [this, ← List.drop_eq_getElem_cons jn, List.take_append_drop]
    rw [e1, List.flatten_append, List.flatten_cons, e2] at hfl
    rw [List.append_assoc, List.cons_append, ← List.append_assoc, List.nodup_append] at hfl
    exact hfl.2.2 p hc p (List.mem_cons_self ..) rfl
  obtain ⟨s1, s2⟩ := sen_at (s := (l.take i.toNat).flatten ++ (l.getD i.toNat []).take j.toNat) hpr.1 hpr.2
  rw [if_neg hnew] at s2
  rw [← hu] at s1 s2
  refine ⟨⟨j0, hj⟩, hpr, s1, s2, fun h => ⟨w64_id (by omega) (by omega), ⟨by omega, by omega⟩, ?_⟩, ?_, ?_⟩
  · rw [List.pairwise_iff_getElem] at cP
    have a1 : (j - 1).toNat < (l.getD i.toNat []).length := by omega
    have a2 : j.toNat < (l.getD i.toNat []).length := by omega
    have := cP (j - 1).toNat j.toNat a1 a2 (by omega)
    rw [hp]
    rw [List.getD_eq_getElem?_getD (l := l.getD i.toNat []), List.getD_eq_getElem?_getD (l := l.getD i.toNat []), List.getElem?_eq_getElem a1, List.getElem?_eq_getElem a2]
    exact this
  · rw [s2, hw, show w64 (0 + 1) = 1 by decide]
    refine ⟨⟨by omega, by omega⟩, ?_⟩
    rw [hu, sen_set hpr.1 hpr.2, take_succ j0 hj (0 : Int), ← hp, List.append_assoc]
  · rw [hw]
    exact ⟨decide_eq_true (by unfold paMu; omega), decide_eq_true (by unfold paMu; omega)⟩
theorem pa_in {i : Int} {u : List Int} (hO : paO l n u i) : paI l n i u 0 := ⟨⟨Int.le_refl _, by omega⟩, by rw [hO.2]; simp⟩
theorem pa_next {i j : Int} {u : List Int} (i0 : 0 ≤ i) (hi : i < (l.length : Int)) (hI : paI l n i u j) (hj : ¬ j < ((l.getD i.toNat []).length : Int)) :
    paO l n u (w64 (i + 1)) ∧ (decide (0 ≤ liMu l (w64 (i + 1))) = true ∧ decide (liMu l (w64 (i + 1)) < liMu l i) = true) := by
  have hn := hP.1
  have hw : w64 (i + 1) = i + 1 := w64_id (by omega) (by omega)
  rw [hw]
  refine ⟨⟨⟨by omega, by omega⟩, ?_⟩, decide_eq_true (by unfold liMu; omega), decide_eq_true (by unfold liMu; omega)⟩
  rw [hI.2, take_end hj, take_succ i0 hi ([] : List Int), List.flatten_append]
  simp
theorem pa_0 : paO l n (lrep n 0) 0 := ⟨⟨Int.le_refl _, by omega⟩, by rw [← sen_0 n hP.1.1]; simp⟩
theorem pa_end {i k : Int} {u : List Int} (hO : paO l n u i) (hi : ¬ i < (l.length : Int)) (k0 : 0 ≤ k) (hk : k < n) : inB u k ∧ u.getD k.toNat 0 = 1 := by
  have h1 := hO.2
  rw [take_end hi] at h1
  obtain ⟨s1, s2⟩ := sen_at (s := l.flatten) k0 hk
  rw [if_pos ((hP.2.2.1 k).2 ⟨k0, hk⟩)] at s2
  rw [h1]
  exact ⟨s1, s2⟩
theorem pa_len {i : Int} {u : List Int} (hO : paO l n u i) : (u.length : Int) = n := by
  have := hP.1
  rw [hO.2, sen_len]; omega
end
/-! ### Cosets cut the group -/
def inQ (c : List Int) (k : Int) (b : Bool) (m : Int) : Prop := (0 ≤ m ∧ m ≤ (c.length : Int)) ∧ b = decide (k ∈ c.take m.toNat)
theorem inQ_0 (c : List Int) (k : Int) : inQ c k false 0 := ⟨⟨Int.le_refl _, by omega⟩, by simp⟩
theorem inQ_next {c : List Int} {k m : Int} {b : Bool} (hc : c.length ≤ 192) (h : inQ c k b m) (hm : m < (c.length : Int)) :
    inB c m ∧ (b = true → inQ c k true (w64 (m + 1))) ∧ (b = false → inQ c k (decide (c.getD m.toNat 0 = k)) (w64 (m + 1))) ∧ (decide (0 ≤ inMu c (w64 (m + 1))) = true ∧ decide (inMu c (w64 (m + 1)) < inMu c m) = true) := by
  obtain ⟨⟨h1, h2⟩, h3⟩ := h
  have hw : w64 (m + 1) = m + 1 := w64_id (by omega) (by omega)
  rw [hw]
  refine ⟨⟨h1, hm⟩, fun hb => ⟨⟨by omega, by omega⟩, ?_⟩, fun hb => ⟨⟨by omega, by omega⟩, ?_⟩, decide_eq_true (by unfold inMu; omega), decide_eq_true (by unfold inMu; omega)⟩
  · rw [hb] at h3
    rw [take_succ h1 hm (0 : Int)]
    exact (decide_eq_true (List.mem_append.2 (.inl (of_decide_eq_true h3.symm)))).symm
  · rw [hb] at h3
    rw [take_succ h1 hm (0 : Int), Bool.eq_iff_iff, decide_eq_true_iff, decide_eq_true_iff, List.mem_append, List.mem_singleton]
    exact ⟨fun h => .inr h.symm, fun h => h.elim (fun h => absurd h (of_decide_eq_false h3.symm)) fun h => h.symm⟩
theorem inQ_end {c : List Int} {k m : Int} {b : Bool} (h : inQ c k b m) (hm : ¬ m < (c.length : Int)) (hk : k ∈ c) : b = true := by
  rw [h.2, take_end hm]; exact decide_eq_true hk
theorem ct_get {f : Op3 → Nat → Nat} {H : List Op3} {N : Nat} (hA : Act H N f) {i : Int} (h0 : 0 ≤ i) (hi : i < ((ctL f H N N).length : Int)) :
    ∃ a : Nat, a < N ∧ loN f H a = a ∧ (ctL f H N N).getD i.toNat [] = orbI f H N a ∧ (orbI f H N a).getD 0 0 = (a : Int) ∧ 0 < (orbI f H N a).length := by
  have hm := getD_mem h0 hi ([] : List Int)
  obtain ⟨a, ha, e⟩ := List.mem_map.1 hm
  obtain ⟨h1, h2⟩ := (fst_mem hA).1 ha
  obtain ⟨h3, h4⟩ := orb_head h1 h2
  exact ⟨a, h1, h2, e.symm, h3, h4⟩
section
variable {g h : List Op3} (hg : chkE g = 0) (hh : chkE h = 0) (hs : ∀ o ∈ h, o ∈ g)
include hg hh hs
theorem csC_eq : csC g h = ctL (cosA g) h g.length g.length := if_pos (bo_of hg hh hs)
theorem csC_pa : paP (csC g h) (g.length : Int) := by rw [csC_eq hg hh hs]; exact pa_ct (cos_act hg hh hs) (chk_len hg)
theorem csC_mul : (csC g h).length * h.length = g.length := by
  have hA := cos_act hg hh hs
  have h1 := ct_sum hA
  rw [sum_const (ctN (cosA g) h g.length) h.length _ fun a ha => by
    obtain ⟨h2, h3⟩ := (fst_mem hA).1 ha
    have := cos_ct hg hh hs h2
    rwa [h3] at this] at h1
  rw [csC_eq hg hh hs]
  unfold ctL
  rw [List.length_map]
  exact h1
theorem csC_at {i : Int} (h0 : 0 ≤ i) (hi : i < ((csC g h).length : Int)) :
    ∃ a : Nat, a < g.length ∧ (csC g h).getD i.toNat [] = orbI (cosA g) h g.length a ∧ ((csC g h).getD i.toNat []).getD 0 0 = (a : Int) ∧ ((csC g h).getD i.toNat []).length = h.length ∧
      ∀ b ∈ h, idxO g (mulO (g.getD a zerO) b) ∈ (csC g h).getD i.toNat [] := by
  have hA := cos_act hg hh hs
  rw [csC_eq hg hh hs] at hi ⊢
  obtain ⟨a, h1, h2, h3, h4, _⟩ := ct_get hA h0 hi
  refine ⟨a, h1, h3, by rw [h3]; exact h4, ?_, fun b hb => ?_⟩
  · rw [h3, orb_len]
    have := cos_ct hg hh hs h1
    rwa [h2] at this
  · rw [h3, orb_mem]
    have := (cos_mem hg hh hs h1 (idxO g (mulO (g.getD a zerO) b))).1 (List.mem_map.2 ⟨b, hb, rfl⟩)
    rwa [h2] at this
end
end Go.Fx
