/-
  WholeShears in Lean: a map without order lies in no finite group.
-/
import Derived.Test.YthoicknhjjlnjaaGreatTa
import Derived.Test.YthoicknhjjlnjaaGreatGk
set_option linter.unusedSimpArgs false
set_option linter.unusedVariables false
set_option linter.unusedSectionVars false
namespace Go.Fx
open Go
theorem sgn_tab : ((List.range 48).all fun k => decide (uniE (sgnM k) = 0)) = true := by decide +kernel
theorem six_tab : ((List.range 24).all fun k => decide (uniE (sixM k) = 0)) = true := by decide +kernel
theorem sgn_uni (k : Int) : uniE (sgnM k) = 0 := by
  have e : sgnM k = sgnM ((k % 48).toNat : Int) := by
    have h : (((k % 48).toNat : Nat) : Int) = k % 48 := by omega
    unfold sgnM
    rw [h, show (k % 48) % 48 = k % 48 by omega]
  rw [e]
  have := (List.all_eq_true.1 sgn_tab) (k % 48).toNat (List.mem_range.2 (by omega))
  exact of_decide_eq_true this
theorem six_uni (k : Int) : uniE (sixM k) = 0 := by
  have e : sixM k = sixM ((k % 24).toNat : Int) := by
    have h : (((k % 24).toNat : Nat) : Int) = k % 24 := by omega
    unfold sixM
    rw [h, show (k % 24) % 6 = k % 6 by omega, show (k % 24) / 6 % 2 = k / 6 % 2 by omega, show (k % 24) / 12 % 2 = k / 12 % 2 by omega]
  rw [e]
  have := (List.all_eq_true.1 six_tab) (k % 24).toNat (List.mem_range.2 (by omega))
  exact of_decide_eq_true this
theorem sed_frm (s : Sd) : Frm (sedO s) := by
  refine errO_ok.1 ?_
  unfold errO
  have ht : inT (sedO s).T = true := inT_mod (V3.mk (s.t0 * stpI s.Step) (s.t1 * stpI s.Step) (s.t2 * stpI s.Step))
  rw [if_pos ht]
  unfold sedO
  show uniE (if s.Hex = true then sixM s.K else sgnM s.K) = 0
  split
  · exact six_uni _
  · exact sgn_uni _
theorem sedL_frm (l : List Sd) : ∀ o ∈ sedL l, Frm o := fun o ho => by
  unfold sedL at ho
  obtain ⟨s, _, rfl⟩ := List.mem_map.1 ho
  exact sed_frm _
theorem sed_gE (l : List Sd) : gE (sedL l) = 0 := gE_of (by have := sedL_len l; omega) (sedL_frm l)
def shrO (n : Int) : Op3 := Op3.mk (M3.mk 1 n 0 0 1 0 0 0 1) (V3.mk 0 0 0)
def pwG (s : Op3) : Nat → Op3
  | 0 => oneO
  | n + 1 => mulO s (pwG s n)
theorem shr_pow (n : Int) : ∀ k : Nat, (pwG (shrO n) k).R.xy = k * n ∧ (pwG (shrO n) k).R.yy = 1 ∧ (pwG (shrO n) k).R.zy = 0
  | 0 => ⟨by show (0 : Int) = _; simp, rfl, rfl⟩
  | k + 1 => by
    obtain ⟨h1, h2, h3⟩ := shr_pow n k
    refine ⟨?_, ?_, ?_⟩
    · show 1 * (pwG (shrO n) k).R.xy + n * (pwG (shrO n) k).R.yy + 0 * (pwG (shrO n) k).R.zy = _
      rw [h1, h2, h3, Int.natCast_add, Int.add_mul]; simp
    · show 0 * (pwG (shrO n) k).R.xy + 1 * (pwG (shrO n) k).R.yy + 0 * (pwG (shrO n) k).R.zy = _
      rw [h1, h2, h3]; simp
    · show 0 * (pwG (shrO n) k).R.xy + 0 * (pwG (shrO n) k).R.yy + 1 * (pwG (shrO n) k).R.zy = _
      rw [h1, h2, h3]; simp
theorem shr_inf {w : List Op3} {n : Int} (hn : n ≠ 0) (hs : shrO n ∈ w) : cloE w ≠ 0 := fun h => by
  have hI := clo_isG h
  have hc := isG_chk hI
  obtain ⟨hF, hnd, hone, hcl⟩ := chk_grp hc
  have hsg : shrO n ∈ cloL w := (hI.mem _).2 (Gen.mem (gE_frm (by
    unfold cloE at h
    split at h
    · assumption
    · assumption)) hs)
  have hp : ∀ k, pwG (shrO n) k ∈ cloL w := fun k => by
    induction k with
    | zero => exact hone
    | succ k ih => exact hcl _ hsg _ ih
  have hinj : ∀ i j : Nat, pwG (shrO n) i = pwG (shrO n) j → i = j := fun i j e => by
    have h1 := (shr_pow n i).1
    rw [e, (shr_pow n j).1] at h1
    have h2 := Int.eq_of_mul_eq_mul_right hn h1
    omega
  have hnd2 : ((List.range 193).map (pwG (shrO n))).Nodup := nodup_map List.nodup_range fun x _ y _ e => hinj x y e
  have := nodup_le (m := cloL w) hnd2 fun x hx => by
    obtain ⟨k, _, rfl⟩ := List.mem_map.1 hx
    exact hp k
  rw [List.length_map, List.length_range] at this
  have := hI.len
  omega
theorem clo_5 {w : List Op3} (h1 : gE w = 0) (h2 : cloE w ≠ 0) : cloE w = 5 ∧ cloL w = [] := by
  cases h : cloR lfO w with
  | none => exact ⟨by unfold cloE; rw [if_pos h1, h], by unfold cloL; rw [if_pos h1, h]⟩
  | some a => exact absurd (by unfold cloE; rw [if_pos h1, h]) h2
def trO (a b : Int) : Op3 := Op3.mk (M3.mk 1 0 0 0 1 0 0 0 1) (V3.mk a b 0)
theorem tr_x {a b : Int} (a0 : 0 ≤ a) (a1 : a < 23) (b0 : 0 ≤ b) (b1 : b < 24) : mulO (trO 1 0) (trO a b) = trO (a + 1) b := by
  have h1 : (a + 1) % 24 = a + 1 := by omega
  have h2 : b % 24 = b := by omega
  simp [mulO, trO, mulZ, appZ, addV, modV, addT, h1, h2]
theorem tr_y {a b : Int} (a0 : 0 ≤ a) (a1 : a < 24) (b0 : 0 ≤ b) (b1 : b < 23) : mulO (trO 0 1) (trO a b) = trO a (b + 1) := by
  have h1 : a % 24 = a := by omega
  have h2 : (b + 1) % 24 = b + 1 := by omega
  simp [mulO, trO, mulZ, appZ, addV, modV, addT, h1, h2]
theorem tr_gE : gE [trO 1 0, trO 0 1] = 0 := by decide +kernel
theorem tr_ne : cloE [trO 1 0, trO 0 1] ≠ 0 := fun h => by
  have hI := clo_isG h
  have hc := isG_chk hI
  obtain ⟨hF, hnd, hone, hcl⟩ := chk_grp hc
  have hx : trO 1 0 ∈ cloL [trO 1 0, trO 0 1] := (hI.mem _).2 (Gen.mem (gE_frm tr_gE) (by simp))
  have hy : trO 0 1 ∈ cloL [trO 1 0, trO 0 1] := (hI.mem _).2 (Gen.mem (gE_frm tr_gE) (by simp))
  have ha : ∀ a : Nat, a < 24 → trO a 0 ∈ cloL [trO 1 0, trO 0 1] := fun a => by
    induction a with
    | zero => intro _; exact hone
    | succ a ih =>
      intro h1
      have := hcl _ hx _ (ih (by omega))
      rw [tr_x (by omega) (by omega) (by omega) (by omega)] at this
      rwa [Int.natCast_add]
  have hab : ∀ a : Nat, a < 24 → ∀ b : Nat, b < 24 → trO a b ∈ cloL [trO 1 0, trO 0 1] := fun a h1 b => by
    induction b with
    | zero => intro _; exact ha a h1
    | succ b ih =>
      intro h2
      have := hcl _ hy _ (ih (by omega))
      rw [tr_y (by omega) (by omega) (by omega) (by omega)] at this
      rwa [Int.natCast_add]
  have hnd2 : ((List.range 193).map fun k : Nat => trO ((k / 24 : Nat) : Int) ((k % 24 : Nat) : Int)).Nodup := nodup_map List.nodup_range fun x _ y _ e => by
    have e1 := congrArg (fun o : Op3 => o.T.x) e
    have e2 := congrArg (fun o : Op3 => o.T.y) e
    simp only [trO] at e1 e2
    omega
  have := nodup_le (m := cloL [trO 1 0, trO 0 1]) hnd2 fun x hx => by
    obtain ⟨k, hk, rfl⟩ := List.mem_map.1 hx
    have := List.mem_range.1 hk
    exact hab _ (by omega) _ (by omega)
  rw [List.length_map, List.length_range] at this
  have := hI.len
  omega
def wiP (g : List Op3) (s : Op3) (a : Int) (w : List Op3) (i : Int) : Prop := 0 ≤ i ∧ i ≤ (g.length : Int) + 1 ∧ (w.length : Int) ≤ 2 * i ∧ (∀ o ∈ w, o = s ∨ o ∈ g) ∧ (a % ((g.length : Int) + 1) < i → s ∈ w)
def wiMu (g : List Op3) (i : Int) : Int := (g.length : Int) + 1 - i
theorem wi_init (g : List Op3) (s : Op3) (a : Int) (ha : 0 ≤ a) : wiP g s a [] 0 :=
  ⟨Int.le_refl _, by omega, by simp, (fun o ho => by cases ho), fun h => by have := Int.emod_nonneg a (b := (g.length : Int) + 1) (by omega); omega⟩
theorem wi_next {g : List Op3} {s : Op3} {a : Int} {w w' : List Op3} {i : Int} (h : wiP g s a w i) (hi : i ≤ (g.length : Int)) (hl : w'.length ≤ w.length + 2) (hm : ∀ o ∈ w', o ∈ w ∨ o = s ∨ o ∈ g) (hk : ∀ o ∈ w, o ∈ w') (hs : i = a % ((g.length : Int) + 1) → s ∈ w') : wiP g s a w' (i + 1) := by
  obtain ⟨h1, h2, h3, h4, h5⟩ := h
  refine ⟨by omega, by omega, by omega, fun o ho => (hm o ho).elim (h4 o) id, fun hlt => ?_⟩
  by_cases e : i = a % ((g.length : Int) + 1)
  · exact hs e
  · exact hk s (h5 (by omega))
theorem wi_a {g : List Op3} {s : Op3} {a : Int} {w : List Op3} {i : Int} (h : wiP g s a w i) (hi : i < (g.length : Int)) : wiP g s a (lapp (lapp w [s]) [g.getD i.toNat zerO]) (i + 1) := by
  have hm := getD_mem h.1 hi zerO
  generalize g.getD i.toNat zerO = x at hm ⊢
  refine wi_next h (by omega) (by simp [lapp]) (fun o ho => ?_) (fun o ho => by simp [lapp, ho]) fun _ => by simp [lapp]
  simp only [lapp, List.mem_append, List.mem_singleton] at ho
  rcases ho with (ho | ho) | ho
  · exact .inl ho
  · exact .inr (.inl ho)
  · exact .inr (.inr (by rw [ho]; exact hm))
theorem wi_b {g : List Op3} {s : Op3} {a : Int} {w : List Op3} {i : Int} (h : wiP g s a w i) (hi : i ≤ (g.length : Int)) : wiP g s a (lapp w [s]) (i + 1) := by
  refine wi_next h hi (by simp [lapp]) (fun o ho => ?_) (fun o ho => by simp [lapp, ho]) fun _ => by simp [lapp]
  simp only [lapp, List.mem_append, List.mem_singleton] at ho
  exact ho.elim .inl fun ho => .inr (.inl ho)
theorem wi_c {g : List Op3} {s : Op3} {a : Int} {w : List Op3} {i : Int} (h : wiP g s a w i) (hi : i < (g.length : Int)) (hn : ¬ i = a % ((g.length : Int) + 1)) : wiP g s a (lapp w [g.getD i.toNat zerO]) (i + 1) := by
  have hm := getD_mem h.1 hi zerO
  generalize g.getD i.toNat zerO = x at hm ⊢
  refine wi_next h (by omega) (by simp [lapp]) (fun o ho => ?_) (fun o ho => by simp [lapp, ho]) fun e => absurd e hn
  simp only [lapp, List.mem_append, List.mem_singleton] at ho
  exact ho.elim .inl fun ho => .inr (.inr (by rw [ho]; exact hm))
theorem wi_d {g : List Op3} {s : Op3} {a : Int} {w : List Op3} {i : Int} (h : wiP g s a w i) (hi : i ≤ (g.length : Int)) (hn : ¬ i = a % ((g.length : Int) + 1)) : wiP g s a w (i + 1) :=
  wi_next h hi (by omega) (fun o ho => .inl ho) (fun o ho => ho) fun e => absurd e hn
theorem tr_1 : cloE [] = 0 ∧ (cloL []).length = 1 := by decide +kernel
theorem tr_2 : cloE [Op3.mk (M3.mk 1 0 0 0 1 0 0 0 1) (V3.mk 1 0 0), Op3.mk (M3.mk 1 0 0 0 1 0 0 0 1) (V3.mk 0 1 0)] = 5 ∧ cloL [Op3.mk (M3.mk 1 0 0 0 1 0 0 0 1) (V3.mk 1 0 0), Op3.mk (M3.mk 1 0 0 0 1 0 0 0 1) (V3.mk 0 1 0)] = [] := clo_5 tr_gE tr_ne
theorem tr_3 : cloE [Op3.mk (M3.mk 1 0 0 0 1 0 0 0 1) (V3.mk 1 0 0)] = 0 ∧ (cloL [Op3.mk (M3.mk 1 0 0 0 1 0 0 0 1) (V3.mk 1 0 0)]).length = 24 := by decide +kernel
theorem shr_frm {n : Int} (h1 : -128 ≤ n) (h2 : n ≤ 127) : Frm (shrO n) :=
  ⟨rfl, ⟨⟨by show (-1000 : Int) ≤ 1; omega, by show (1 : Int) ≤ 1000; omega⟩, ⟨by show (-1000 : Int) ≤ n; omega, by show n ≤ 1000; omega⟩, ⟨by show (-1000 : Int) ≤ 0; omega, by show (0 : Int) ≤ 1000; omega⟩, ⟨by show (-1000 : Int) ≤ 0; omega, by show (0 : Int) ≤ 1000; omega⟩, ⟨by show (-1000 : Int) ≤ 1; omega, by show (1 : Int) ≤ 1000; omega⟩, ⟨by show (-1000 : Int) ≤ 0; omega, by show (0 : Int) ≤ 1000; omega⟩, ⟨by show (-1000 : Int) ≤ 0; omega, by show (0 : Int) ≤ 1000; omega⟩, ⟨by show (-1000 : Int) ≤ 0; omega, by show (0 : Int) ≤ 1000; omega⟩, ⟨by show (-1000 : Int) ≤ 1; omega, by show (1 : Int) ≤ 1000; omega⟩⟩, .inl (by simp [shrO, detZ])⟩
theorem wi_end {l : List Sd} {m a : Int} (hm : m ≠ 0) (b1 : -128 ≤ m) (b2 : m ≤ 127) {w : List Op3} {i : Int} (h : wiP (sedL l) (shrO m) a w i) (hi : ¬ i ≤ ((sedL l).length : Int)) : cloE w = 5 ∧ cloL w = [] := by
  obtain ⟨h1, h2, h3, h4, h5⟩ := h
  have hl := sedL_len l
  have := Int.emod_lt_of_pos a (b := ((sedL l).length : Int) + 1) (by omega)
  have hs := h5 (by omega)
  exact clo_5 (gE_of (by omega) fun o ho => (h4 o ho).elim (fun e => by rw [e]; exact shr_frm b1 b2) (sedL_frm l o)) (shr_inf hm hs)
end Go.Fx
