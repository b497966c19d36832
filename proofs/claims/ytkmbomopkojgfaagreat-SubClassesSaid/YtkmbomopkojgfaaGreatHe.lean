/-
  Layer 6 in Lean: the document's examples.
-/
import Derived.Test.YtkmbomopkojgfaaGreatHd
set_option linter.unusedSimpArgs false
set_option linter.unusedVariables false
set_option linter.unusedSectionVars false
namespace Go.Fx
open Go
def trO (a b : Int) : Op3 := Op3.mk (M3.mk 1 0 0 0 1 0 0 0 1) (V3.mk a b 0)
theorem tr_x {a b : Int} (a0 : 0 ≤ a) (a1 : a < 23) (b0 : 0 ≤ b) (b1 : b < 24) : mulO (trO 1 0) (trO a b) = trO (a + 1) b := by
  have h1 : (a + 1) % 24 = a + 1 := by omega
  have h2 : b % 24 = b := by omega
  simp [mulO, trO, mulZ, appZ, addV, modV, addT, h1, h2]
theorem tr_y {a b : Int} (a0 : 0 ≤ a) (a1 : a < 24) (b0 : 0 ≤ b) (b1 : b < 23) : mulO (trO 0 1) (trO a b) = trO a (b + 1) := by
  have h1 : a % 24 = a := by omega
  have h2 : (b + 1) % 24 = b + 1 := by omega
  simp [mulO, trO, mulZ, appZ, addV, modV, addT, h1, h2]
theorem tr_gE : gE [trO 1 0, trO 0 1] = 0 := by decide +kernel
theorem tr_ne : cloE [trO 1 0, trO 0 1] ≠ 0 := fun h => by
  have hI := clo_isG h
  have hc := isG_chk hI
  obtain ⟨hF, hnd, hone, hcl⟩ := chk_grp hc
  have hx : trO 1 0 ∈ cloL [trO 1 0, trO 0 1] := (hI.mem _).2 (Gen.mem (gE_frm tr_gE) (by simp))
  have hy : trO 0 1 ∈ cloL [trO 1 0, trO 0 1] := (hI.mem _).2 (Gen.mem (gE_frm tr_gE) (by simp))
  have ha : ∀ a : Nat, a < 24 → trO a 0 ∈ cloL [trO 1 0, trO 0 1] := fun a => by
    induction a with
    | zero => intro _; exact hone
    | succ a ih =>
      intro h1
      have := hcl _ hx _ (ih (by omega))
      rw [tr_x (by omega) (by omega) (by omega) (by omega)] at this
      rwa [Int.natCast_add]
  have hab : ∀ a : Nat, a < 24 → ∀ b : Nat, b < 24 → trO a b ∈ cloL [trO 1 0, trO 0 1] := fun a h1 b => by
    induction b with
    | zero => intro _; exact ha a h1
    | succ b ih =>
      intro h2
      have := hcl _ hy _ (ih (by omega))
      rw [tr_y (by omega) (by omega) (by omega) (by omega)] at this
      rwa [Int.natCast_add]
  have hnd2 : ((List.range 193).map fun k : Nat => trO ((k / 24 : Nat) : Int) ((k % 24 : Nat) : Int)).Nodup := nodup_map List.nodup_range fun x _ y _ e => by
    have e1 := congrArg (fun o : Op3 => o.T.x) e
    have e2 := congrArg (fun o : Op3 => o.T.y) e
    simp only [trO] at e1 e2
    omega
  have := nodup_le (m := cloL [trO 1 0, trO 0 1]) hnd2 fun x hx => by
    obtain ⟨k, hk, rfl⟩ := List.mem_map.1 hx
    have := List.mem_range.1 hk
    exact hab _ (by omega) _ (by omega)
  rw [List.length_map, List.length_range] at this
  have := hI.len
  omega
def miO (a b c d : Int) : Op3 := Op3.mk (M3.mk a b 0 c d 0 0 0 1) (V3.mk 0 0 0)
def mirO : List Op3 := [miO (-1) 0 0 (-1), miO (-1) 0 0 1, miO 0 (-1) (-1) 0, miO 0 (-1) 1 0, miO 0 1 (-1) 0, miO 0 1 1 0, miO 1 0 0 (-1), miO 1 0 0 1]
def mi2 : List Op3 := [miO 1 0 0 (-1), miO 1 0 0 1]
def haL : List Op3 := [flO 1 1 1 (V3.mk 0 0 0), flO 1 1 1 (V3.mk 12 0 0)]
def thL : List Op3 := [flO 1 1 1 (V3.mk 0 0 0), flO 1 1 1 (V3.mk 8 0 0), flO 1 1 1 (V3.mk 16 0 0)]
def enA : List Op3 := [Op3.mk (M3.mk 1 0 0 0 (-1) 0 0 0 1) (V3.mk 0 0 0), oneO]
def enB : List Op3 := [oneO, Op3.mk (M3.mk 1 1 0 0 (-1) 0 0 0 1) (V3.mk 0 0 0)]
def flX : List Op3 := (List.range 24).map fun k : Nat => flO 1 1 1 (V3.mk (k : Int) 0 0)
def flY : List Op3 := (List.range 24).map fun k : Nat => flO 1 1 1 (V3.mk 0 (k : Int) 0)
def flXi (i : Nat) : List Op3 := (List.range 24).map fun k : Nat => if k < i then flO 1 1 1 (V3.mk (k : Int) 0 0) else zerO
def flYi (i : Nat) : List Op3 := (List.range 24).map fun k : Nat => if k < i then flO 1 1 1 (V3.mk 0 (k : Int) 0) else zerO
def fxJ (x y : List Op3) (i : Int) : Prop := (0 ≤ i ∧ i ≤ 24) ∧ x = flXi i.toNat ∧ y = flYi i.toNat
def fxM (i : Int) : Int := 24 - i
def so192 (l : List Op3) : Prop := l.length ≤ 192
def soI (l s : List Op3) (i : Int) : Prop := (0 ≤ i ∧ i ≤ (l.length : Int)) ∧ s = insO (l.take i.toNat)
theorem fm1 : clC mirO = [[0], [1, 6], [2, 5], [3, 4], [7]] := by decide +kernel
theorem fm2 : chkE mirO = 0 := by decide +kernel
theorem fm3 : heL mirO = [miO (-1) 0 0 (-1), miO 1 0 0 1] := by decide +kernel
theorem fm4 : csC mirO mi2 = [[0, 1], [2, 4], [3, 5], [6, 7]] := by decide +kernel
theorem fm5 : boE mirO mi2 = 0 := by decide +kernel
theorem fm6 : noB mirO mi2 = false := by decide +kernel
theorem fm7 : siB [oneO] paH = false ∧ two [oneO] paH = 0 ∧ boE [oneO] paH = 6 ∧ boE [oneO] [] = 5 := by decide +kernel
theorem fm8 : meL haL thL = [oneO] ∧ two haL thL = 0 ∧ joE haL thL = 0 := by decide +kernel
theorem fm9 : (joL haL thL).length = 6 ∧ (((joL haL thL).getD 1 zerO).T.x = 4 ∧ ((joL haL thL).getD 1 zerO).T.y = 0 ∧ ((joL haL thL).getD 1 zerO).T.z = 0) := by decide +kernel
theorem fm10 : joE enA (insO enB) = 5 := by decide +kernel
theorem fm11 : two flX flY = 0 ∧ (meL flX flY).length = 1 ∧ two flX [zerO] = 3 := by decide +kernel
theorem fm12 : chkE (lrep 193 zerO) = 2 := by
  unfold chkE gE lrep
  rw [List.length_replicate]; rfl
theorem fm13 : joE flX flY = 5 := by
  refine (jo_no fm11.1 fun he => ?_).1
  obtain ⟨jc, jg, jh, _⟩ := jo_ok fm11.1 he
  refine tr_ne (part_clo jc (m := [trO 1 0, trO 0 1]) (fun o ho => ?_) (by decide)).1
  rcases List.mem_cons.1 ho with rfl | ho
  · exact jg _ (List.mem_map.2 ⟨1, List.mem_range.2 (by decide), rfl⟩)
  · rw [List.mem_singleton.1 ho]
    exact jh _ (List.mem_map.2 ⟨1, List.mem_range.2 (by decide), rfl⟩)
theorem fx_0 : fxJ (lrep 24 zerO) (lrep 24 zerO) 0 := ⟨⟨Int.le_refl _, by decide⟩, rfl, rfl⟩
theorem fx_len {x y : List Op3} {i : Int} (h : fxJ x y i) : x.length = 24 ∧ y.length = 24 := by
  rw [h.2.1, h.2.2]
  exact ⟨by simp [flXi], by simp [flYi]⟩
theorem fx_next6 {x y : List Op3} {i : Int} (h : fxJ x y i) (hi : i < 24) :
    inB x i ∧ inB y i ∧ fxJ (lset x i (flO 1 1 1 (V3.mk i 0 0))) (lset y i (flO 1 1 1 (V3.mk 0 i 0))) (w64 (i + 1)) ∧ (decide (0 ≤ fxM (w64 (i + 1))) = true ∧ decide (fxM (w64 (i + 1)) < fxM i) = true) := by
  obtain ⟨l1, l2⟩ := fx_len h
  obtain ⟨⟨h1, h2⟩, h3, h4⟩ := h
  have hw : w64 (i + 1) = i + 1 := w64_id (by omega) (by omega)
  rw [hw]
  refine ⟨⟨h1, by omega⟩, ⟨h1, by omega⟩, ⟨⟨by omega, by omega⟩, ?_, ?_⟩, decide_eq_true (by unfold fxM; omega), decide_eq_true (by unfold fxM; omega)⟩
  · rw [h3]
    unfold lset flXi
    refine rg_set (by omega) ?_ fun j hj hne => ?_
    · rw [if_pos (by omega), show ((i.toNat : Nat) : Int) = i by omega]
    · by_cases c : j < i.toNat
      · rw [if_pos c, if_pos (by omega)]
      · rw [if_neg c, if_neg (by omega)]
  · rw [h4]
    unfold lset flYi
    refine rg_set (by omega) ?_ fun j hj hne => ?_
    · rw [if_pos (by omega), show ((i.toNat : Nat) : Int) = i by omega]
    · by_cases c : j < i.toNat
      · rw [if_pos c, if_pos (by omega)]
      · rw [if_neg c, if_neg (by omega)]
theorem fx_end6 {x y : List Op3} {i : Int} (h : fxJ x y i) (hi : ¬ i < 24) : x = flX ∧ y = flY := by
  obtain ⟨⟨h1, h2⟩, h3, h4⟩ := h
  have e : i.toNat = 24 := by omega
  rw [e] at h3 h4
  exact ⟨h3.trans (rg_congr fun k hk => if_pos hk), h4.trans (rg_congr fun k hk => if_pos hk)⟩
theorem so6_fit {l s : List Op3} {i : Int} (hl : l.length ≤ 192) (h : soI l s i) (hi : i < (l.length : Int)) (x : Op3) : (s ++ [x]).length * 96 ≤ 140737488355328 := by
  have := (insO_perm (l.take i.toNat)).length_eq
  rw [List.length_append, List.length_singleton, h.2, this, List.length_take]
  omega
theorem so6_next {l s t : List Op3} {i : Int} (hl : l.length ≤ 192) (h : soI l s i) (hi : i < (l.length : Int)) (ht : t = putO s (l.getD i.toNat zerO)) :
    soI l t (w64 (i + 1)) ∧ (decide (0 ≤ opMu l (w64 (i + 1))) = true ∧ decide (opMu l (w64 (i + 1)) < opMu l i) = true) := by
  obtain ⟨⟨h1, h2⟩, h3⟩ := h
  obtain ⟨e1, e2, e3⟩ := opMu_next (g := l) (by unfold room; omega) h1 hi
  refine ⟨?_, e2, e3⟩
  rw [e1]
  refine ⟨⟨by omega, by omega⟩, ?_⟩
  rw [take_succ h1 hi zerO, insO_snoc, ← h3, ht]
theorem so6_end {l s : List Op3} {i : Int} (h : soI l s i) (hi : ¬ i < (l.length : Int)) : s = insO l := by rw [h.2, take_end hi]
theorem so6_len {l s : List Op3} {i : Int} (hl : l.length ≤ 192) (h : soI l s i) : s.length * 96 ≤ room := by
  have := (insO_perm (l.take i.toNat)).length_eq
  rw [h.2, this, List.length_take]
  unfold room; omega
end Go.Fx
