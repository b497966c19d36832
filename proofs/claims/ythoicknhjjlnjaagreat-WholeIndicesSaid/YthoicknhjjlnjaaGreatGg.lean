/-
  Layer 5 in Lean: what Close answers is a group; it hangs on what the maps generate alone; matrices times shifts.
-/
import Derived.Test.YthoicknhjjlnjaaGreatGf
set_option linter.unusedSimpArgs false
set_option linter.unusedVariables false
set_option linter.unusedSectionVars false
namespace Go.Fx
open Go
theorem gen_sub {l m : List Op3} (h : ∀ o ∈ l, Gen m o) {x : Op3} (hx : Gen l x) : Gen m x := by
  induction hx with
  | one => exact .one
  | mul ho _ ih => exact Gen.comp (h _ ho) ih
theorem cloE_zero {l : List Op3} (h : cloE l = 0) : gE l = 0 ∧ ∃ a, cloR lfO l = some a ∧ cloL l = insO a := by
  unfold cloE at h
  by_cases hz : gE l = 0
  · rw [if_pos hz] at h
    cases e : cloR lfO l with
    | none => rw [e] at h; cases h
    | some a => exact ⟨hz, a, rfl, by unfold cloL; rw [if_pos hz, e]⟩
  · rw [if_neg hz] at h; exact absurd h hz
structure IsG (l g : List Op3) : Prop where
  nodup : g.Nodup
  len : g.length ≤ 192
  frm : ∀ o ∈ g, Frm o
  ord : ordO g
  mem : ∀ x, x ∈ g ↔ Gen l x
theorem clo_isG {l : List Op3} (h : cloE l = 0) : IsG l (cloL l) := by
  obtain ⟨hz, a, e, hc⟩ := cloE_zero h
  obtain ⟨k1, _⟩ := clo_gen way_l (gE_frm hz) e
  have hp := insO_perm a
  rw [hc]
  exact ⟨hp.nodup_iff.2 k1.nodup, by rw [hp.length_eq]; exact k1.len, fun o ho => k1.frm o (hp.mem_iff.1 ho), insO_ord a, fun x => (hp.mem_iff).trans (clo_iff_l (gE_frm hz) e x)⟩
theorem isG_clo {l g m : List Op3} (hI : IsG l g) (hm : gE m = 0) (hg : ∀ x, Gen l x ↔ Gen m x) : cloL m = g ∧ cloE m = 0 := by
  obtain ⟨a, e⟩ := clo_some way_l (gE_frm hm) hI.frm hI.len fun x => (hI.mem x).trans (hg x)
  obtain ⟨k1, _⟩ := clo_gen way_l (gE_frm hm) e
  have hp : a.Perm g := perm_of_mem k1.nodup hI.nodup fun x => (clo_iff_l (gE_frm hm) e x).trans ((hg x).symm.trans (hI.mem x).symm)
  constructor
  · unfold cloL; rw [if_pos hm, e]
    exact ord_unique (insO_ord a) hI.ord ((insO_perm a).trans hp)
  · unfold cloE; rw [if_pos hm, e]
theorem gE_of {m : List Op3} (h1 : m.length ≤ 192) (h2 : ∀ o ∈ m, Frm o) : gE m = 0 := by
  unfold gE
  rw [if_neg (by omega)]
  exact errL_zero.2 fun o ho => errO_ok.2 (h2 o ho)
theorem isG_st {l g : List Op3} (h : IsG l g) : stB g = true := by
  refine stB_iff.2 fun k hk => ?_
  have h1 := h.ord
  rw [ordO, List.pairwise_iff_getElem] at h1
  have h2 := h1 k (k + 1) (by omega) hk (by omega)
  have h3 : g.getD k zerO = g[k] := by simp [List.getD, show k < g.length by omega]
  have h4 : g.getD (k + 1) zerO = g[k + 1] := by simp [List.getD, hk]
  rw [h3, h4]
  rcases Int.lt_or_eq_of_le h2 with h5 | h5
  · exact h5
  · have := nodup_inj h.nodup (by omega) hk (cmpO_zero.1 h5)
    omega
theorem isG_chk {l g : List Op3} (h : IsG l g) : chkE g = 0 := by
  have hz := gE_of h.len h.frm
  unfold chkE
  rw [if_pos hz, if_pos]
  refine grpB_iff.2 ⟨isG_st h, memO_iff.2 ((h.mem _).2 .one), clsB_iff.2 fun a ha b hb => (h.mem _).2 (Gen.comp ((h.mem a).1 ha) ((h.mem b).1 hb))⟩
theorem isG_self {l g : List Op3} (h : IsG l g) (x : Op3) : Gen l x ↔ Gen g x :=
  ⟨fun hx => Gen.mem h.frm ((h.mem x).2 hx), fun hx => gen_sub (fun o ho => (h.mem o).1 ho) hx⟩
theorem fnd_ok {g : List Op3} {o : Op3} (hc : chkE g = 0) (ho : o ∈ g) : fndE g o = 0 := by
  have hf : gE [o] = 0 := gE_of (by simp) fun p hp => by rw [List.mem_singleton.1 hp]; exact (chk_grp hc).1 o ho
  have hi : ¬ idxO g o < 0 := fun h => (idxD_neg.1 h) ho
  unfold fndE fndF
  rw [hc, hf]
  simp [hi]
/-! ### Matrices times shifts -/
theorem grp_left {g : List Op3} (h : chkE g = 0) {b : Op3} (hb : b ∈ g) : ∃ c ∈ g, mulO c b = oneO ∧ mulO b c = oneO := by
  obtain ⟨hF, _, _, _⟩ := chk_grp h
  obtain ⟨c, hc, e⟩ := grp_right h hb
  have h2 := (inv_mul (hF b hb)).2
  have : invO b = c := undo_unique (inT_mod _) (hF c hc).T h2 e
  exact ⟨c, hc, by rw [← this]; exact h2, e⟩
def fibO (g : List Op3) (m : M3) : List Op3 := g.filter fun o => eqM o.R m
theorem fib_mem {g : List Op3} {m : M3} {o : Op3} : o ∈ fibO g m ↔ o ∈ g ∧ o.R = m := by
  unfold fibO
  rw [List.mem_filter, eqM_iff]
theorem fib_le {g : List Op3} (h : chkE g = 0) {b : Op3} (hb : b ∈ g) (m : M3) : (fibO g m).length ≤ (fibO g (mulZ b.R m)).length := by
  obtain ⟨hF, hnd, _, hcl⟩ := chk_grp h
  obtain ⟨c, hc, e, _⟩ := grp_left h hb
  have hn : ((fibO g m).map (mulO b)).Nodup := by
    have h1 : (fibO g m).Nodup := hnd.filter _
    rw [List.nodup_iff_pairwise_ne, List.pairwise_map]
    rw [List.nodup_iff_pairwise_ne] at h1
    refine List.Pairwise.imp_of_mem (fun {x y} hx hy hne he => hne ?_) h1
    have h2 : mulO c (mulO b x) = mulO c (mulO b y) := by rw [he]
    rw [← mulO_assoc, ← mulO_assoc, e, (mulO_one (hF x (fib_mem.1 hx).1).T).2, (mulO_one (hF y (fib_mem.1 hy).1).T).2] at h2
    exact h2
  have := nodup_le (m := fibO g (mulZ b.R m)) hn fun x hx => by
    obtain ⟨y, hy, rfl⟩ := List.mem_map.1 hx
    obtain ⟨h1, h2⟩ := fib_mem.1 hy
    exact fib_mem.2 ⟨hcl b hb y h1, by show mulZ b.R y.R = _; rw [h2]⟩
  rwa [List.length_map] at this
theorem fib_eq {g : List Op3} (h : chkE g = 0) {b : Op3} (hb : b ∈ g) : (fibO g b.R).length = (fibO g (oneZ 1)).length := by
  obtain ⟨c, hc, e, _⟩ := grp_left h hb
  have h1 := fib_le h hb (oneZ 1)
  have h2 := fib_le h hc b.R
  rw [show mulZ b.R (oneZ 1) = b.R from (mulZ_one _).2] at h1
  rw [show mulZ c.R b.R = oneZ 1 from congrArg Op3.R e] at h2
  omega
theorem sum_fib (g : List Op3) (c : Nat) : ∀ (ms : List M3) (l : List Op3), ms.Nodup → (∀ o ∈ l, o.R ∈ ms) → (∀ m ∈ ms, (fibO l m).length = c) → l.length = ms.length * c
  | [], l, _, h, _ => by
    have : l = [] := List.eq_nil_iff_forall_not_mem.2 fun o ho => by cases h o ho
    subst this; simp
  | m :: ms, l, hn, h, hc => by
    rw [List.nodup_cons] at hn
    have h1 := sum_fib g c ms (l.filter fun o => !eqM o.R m) hn.2 (fun o ho => by
      obtain ⟨h2, h3⟩ := List.mem_filter.1 ho
      rcases List.mem_cons.1 (h o h2) with e | e
      · rw [eqM_iff.2 e] at h3; cases h3
      · exact e) (fun m' hm' => by
      rw [← hc m' (List.mem_cons_of_mem _ hm')]
      unfold fibO
      rw [List.filter_filter]
      congr 1
      apply List.filter_congr
      intro o _
      cases e : eqM o.R m' with
      | false => rfl
      | true =>
        have : ¬ eqM o.R m = true := fun e2 => hn.1 (by rw [← eqM_iff.1 e2, eqM_iff.1 e]; exact hm')
        simp [this])
    have h2 : (fibO l m).length + (l.filter fun o => !eqM o.R m).length = l.length := by
      unfold fibO
      rw [← List.countP_eq_length_filter, ← List.countP_eq_length_filter]
      exact (List.length_eq_countP_add_countP (fun o => eqM o.R m) (l := l)).symm ▸ by simp
    have h3 := hc m (List.mem_cons_self ..)
    rw [List.length_cons, Nat.succ_mul]
    omega
theorem cmpM_of {a b : Op3} (h : cmpO a b ≤ 0) : cmpM a.R b.R ≤ 0 := by
  unfold cmpO at h
  by_cases e : cmpM a.R b.R = 0
  · omega
  · rw [if_neg e] at h; exact h
structure RotP (p : List Op3) : Prop where
  nodup : (rotF p).Nodup
  mem : ∀ o ∈ p, o.R ∈ rotF p
  has : ∀ m ∈ rotF p, ∃ o ∈ p, o.R = m
  last : ∀ m ∈ rotF p, cmpM m ((rotF p).getD ((rotF p).length - 1) zerO.R) ≤ 0
theorem rot_step {p : List Op3} {o : Op3} (h : ordO (p ++ [o])) (hp : RotP p) : RotP (p ++ [o]) := by
  have hle : ∀ x ∈ p, cmpM x.R o.R ≤ 0 := fun x hx => by
    rw [ordO, List.pairwise_append] at h
    exact cmpM_of (h.2.2 x hx o (List.mem_singleton.2 rfl))
  have hme : ∀ m ∈ rotF p, cmpM m o.R ≤ 0 := fun m hm => by
    obtain ⟨x, hx, e⟩ := hp.has m hm
    rw [← e]; exact hle x hx
  have key : rotF (p ++ [o]) = rotS (rotF p) o := rotF_snoc p o
  by_cases hc : (rotF p).length = 0 ∨ cmpM ((rotF p).getD ((rotF p).length - 1) zerO.R) o.R ≠ 0
  · have e : rotF (p ++ [o]) = rotF p ++ [o.R] := by rw [key]; unfold rotS; rw [if_pos hc]
    have hnm : o.R ∉ rotF p := fun hm => by
      have hpos := List.length_pos_of_mem hm
      rcases hc with h0 | h0
      · omega
      · have h1 := hp.last _ hm
        have hlm : (rotF p).getD ((rotF p).length - 1) zerO.R ∈ rotF p := by
          have : (rotF p).length - 1 < (rotF p).length := by omega
          simp [List.getD, this]
        have h2 := hme _ hlm
        have h3 := cmpM_anti o.R ((rotF p).getD ((rotF p).length - 1) zerO.R)
        omega
    refine ⟨?_, fun x hx => ?_, fun m hm => ?_, fun m hm => ?_⟩
    · rw [e, List.nodup_append]
      exact ⟨hp.nodup, by simp, fun y hy z hz e => hnm (by rw [← List.mem_singleton.1 hz, ← e]; exact hy)⟩
    · rw [e]
      rcases List.mem_append.1 hx with hx | hx
      · exact List.mem_append_left _ (hp.mem x hx)
      · rw [List.mem_singleton.1 hx]; exact List.mem_append_right _ (List.mem_singleton.2 rfl)
    · rw [e] at hm
      rcases List.mem_append.1 hm with hm | hm
      · obtain ⟨x, hx, e2⟩ := hp.has m hm
        exact ⟨x, List.mem_append_left _ hx, e2⟩
      · exact ⟨o, List.mem_append_right _ (List.mem_singleton.2 rfl), (List.mem_singleton.1 hm).symm⟩
    · rw [e] at hm ⊢
      have : (rotF p ++ [o.R]).getD ((rotF p ++ [o.R]).length - 1) zerO.R = o.R := by simp
      rw [this]
      rcases List.mem_append.1 hm with hm | hm
      · exact hme m hm
      · rw [List.mem_singleton.1 hm, cmpM_self]; omega
  · have e : rotF (p ++ [o]) = rotF p := by rw [key]; unfold rotS; rw [if_neg hc]
    have h1 : ¬ (rotF p).length = 0 := fun h => hc (.inl h)
    have h2 : (rotF p).getD ((rotF p).length - 1) zerO.R = o.R := cmpM_zero.1 (Classical.byContradiction fun h => hc (.inr h))
    have hlm : (rotF p).getD ((rotF p).length - 1) zerO.R ∈ rotF p := by
      have : (rotF p).length - 1 < (rotF p).length := by omega
      simp [List.getD, this]
    refine ⟨by rw [e]; exact hp.nodup, fun x hx => ?_, fun m hm => ?_, by rw [e]; exact hp.last⟩
    · rw [e]
      rcases List.mem_append.1 hx with hx | hx
      · exact hp.mem x hx
      · rw [List.mem_singleton.1 hx, ← h2]; exact hlm
    · rw [e] at hm
      obtain ⟨x, hx, e2⟩ := hp.has m hm
      exact ⟨x, List.mem_append_left _ hx, e2⟩
theorem rot_all : ∀ (r p : List Op3), ordO (p ++ r) → RotP p → RotP (p ++ r)
  | [], p, _, hp => by rw [List.append_nil]; exact hp
  | o :: r, p, h, hp => by
    have e : p ++ o :: r = (p ++ [o]) ++ r := by simp
    rw [e] at h ⊢
    refine rot_all r (p ++ [o]) h (rot_step ?_ hp)
    rw [ordO, List.pairwise_append] at h
    exact h.1
theorem rot_cen {l g : List Op3} (h : IsG l g) : (rotL g).length * (cenL g).length = g.length := by
  have hc := isG_chk h
  have hr : RotP g := by
    have := rot_all g [] (by simpa using h.ord) ⟨by simp [rotF], (fun o ho => by cases ho), (fun m hm => by simp [rotF] at hm), fun m hm => by simp [rotF] at hm⟩
    simpa using this
  have e1 : rotL g = rotF g := by unfold rotL; rw [if_pos hc]
  have e2 : (cenL g).length = (fibO g (oneZ 1)).length := by
    unfold cenL; rw [if_pos hc]; unfold cenF fibO; rw [List.length_map]
  rw [e1, e2]
  refine (sum_fib g _ (rotF g) g hr.nodup hr.mem fun m hm => ?_).symm
  obtain ⟨b, hb, rfl⟩ := hr.has m hm
  exact fib_eq hc hb
theorem cloE_vals (l : List Op3) : cloE l = 0 ∨ ((cloE l = 2 ∨ cloE l = 3 ∨ cloE l = 4 ∨ cloE l = 5) ∧ cloL l = []) := by
  unfold cloE cloL
  by_cases hz : gE l = 0
  · rw [if_pos hz, if_pos hz]
    cases cloR lfO l with
    | none => exact .inr ⟨.inr (.inr (.inr rfl)), rfl⟩
    | some a => exact .inl rfl
  · rw [if_neg hz, if_neg hz]
    right
    refine ⟨?_, rfl⟩
    unfold gE at hz ⊢
    split
    · exact .inl rfl
    · rename_i hn
      rw [if_neg hn] at hz
      rcases errL_vals l with h | h | h
      · exact absurd h hz
      · exact .inr (.inl h)
      · exact .inr (.inr (.inl h))
/-! ### Turned about -/
def tuP (l t : List Op3) (i : Int) : Prop := -1 ≤ i ∧ i < (l.length : Int) ∧ t = (l.drop (i + 1).toNat).reverse
def tuMu (i : Int) : Int := i + 1
theorem tu_init (l : List Op3) : tuP l [] ((l.length : Int) - 1) := ⟨by omega, by omega, by rw [List.drop_of_length_le (by omega)]; rfl⟩
theorem tu_next {l t : List Op3} {i : Int} (hl : l.length * 96 ≤ 140737488355328) (h : tuP l t i) (hi : 0 ≤ i) : tuP l (lapp t [l.getD i.toNat zerO]) (w64 (i - 1)) ∧ (decide (0 ≤ tuMu (w64 (i - 1))) = true ∧ decide (tuMu (w64 (i - 1)) < tuMu i) = true) := by
  obtain ⟨h0, h1, h2⟩ := h
  have e : w64 (i - 1) = i - 1 := w64_id (by omega) (by omega)
  rw [e]
  refine ⟨⟨by omega, by omega, ?_⟩, decide_eq_true (by unfold tuMu; omega), decide_eq_true (by unfold tuMu; omega)⟩
  rw [show (i - 1 + 1).toNat = i.toNat by omega, drop_at hi h1, List.reverse_cons, ← h2]
  rfl
theorem tu_end {l t : List Op3} {i : Int} (h : tuP l t i) (hi : ¬ 0 ≤ i) : t = l.reverse := by
  rw [h.2.2, show (i + 1).toNat = 0 by have := h.1; omega]; rfl
theorem tu_fit {l t : List Op3} {i : Int} (hl : l.length * 96 ≤ 140737488351232) (h : tuP l t i) (x : Op3) : lfit 96 (lapp t [x]) := by
  refine fit_app (n := l.length) ?_ (by simp; omega)
  rw [h.2.2, List.length_reverse, List.length_drop]; omega
theorem sm_eq {a b : List Op3} (h : a = b) : smO a b = true := decide_eq_true h
theorem idx_in {α : Type} {g : List α} (s : Int) (h : 0 < g.length) : inB g (Int.tmod (Int.tmod s (g.length : Int) + (g.length : Int)) (g.length : Int)) := by
  have h1 : (s.tmod g.length).natAbs < (g.length : Int).natAbs := by rw [Int.natAbs_tmod]; exact Nat.mod_lt _ (by omega)
  generalize Int.tmod s (g.length : Int) = x at h1
  have h2 : 0 ≤ x + (g.length : Int) := by omega
  unfold inB
  rw [Int.tmod_eq_emod_of_nonneg h2]
  exact ⟨Int.emod_nonneg _ (by omega), Int.emod_lt_of_pos _ (by omega)⟩
end Go.Fx
