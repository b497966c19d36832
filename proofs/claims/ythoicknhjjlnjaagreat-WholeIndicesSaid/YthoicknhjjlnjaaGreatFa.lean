/-
  Layers 13 and 14 in Lean: indices; absent ones.
-/
import Derived.Test.YthoicknhjjlnjaaGreatSd
import Derived.Test.YthoicknhjjlnjaaGreatBa
import Derived.Test.YthoicknhjjlnjaaGreatGm
set_option linter.unusedSimpArgs false
set_option linter.unusedVariables false
set_option linter.unusedSectionVars false
namespace Go.Fx
open Go

/-! ### The first that .. -/
def fstI {α : Type} (p : α → Bool) : List α → Int
  | [] => -1
  | x :: r => if p x = true then 0 else if fstI p r < 0 then -1 else fstI p r + 1
theorem fst_cases {α : Type} (p : α → Bool) : ∀ (l : List α), (fstI p l = -1 ∧ ∀ x ∈ l, p x = false) ∨ (0 ≤ fstI p l ∧ fstI p l < (l.length : Int) ∧ (∃ x, l[(fstI p l).toNat]? = some x ∧ p x = true) ∧ ∀ x ∈ l.take (fstI p l).toNat, p x = false)
  | [] => .inl ⟨rfl, fun x hx => by cases hx⟩
  | y :: r => by
    unfold fstI
    split
    · rename_i h
      exact .inr ⟨Int.le_refl _, by simp only [List.length_cons]; omega, ⟨y, rfl, h⟩, fun x hx => by cases hx⟩
    · rename_i h
      have hy : p y = false := by simpa using h
      rcases fst_cases p r with ⟨h1, h2⟩ | ⟨h1, h2, ⟨x, h3, h4⟩, h5⟩
      · left
        rw [if_pos (by omega)]
        exact ⟨rfl, fun x hx => by
          rcases List.mem_cons.1 hx with rfl | hx
          · exact hy
          · exact h2 x hx⟩
      · right
        rw [if_neg (by omega), show (fstI p r + 1).toNat = (fstI p r).toNat + 1 by omega]
        refine ⟨by omega, by simp only [List.length_cons]; omega, ⟨x, by simpa using h3, h4⟩, fun z hz => ?_⟩
        rw [List.take_succ_cons] at hz
        rcases List.mem_cons.1 hz with rfl | hz
        · exact hy
        · exact h5 z hz
def fsP {α : Type} (p : α → Bool) (l : List α) (i : Int) : Prop := 0 ≤ i ∧ i ≤ (l.length : Int) ∧ ∀ x ∈ l.take i.toNat, p x = false
section
variable {α : Type} {p : α → Bool} {l : List α} {i : Int}
theorem fs_init (p : α → Bool) (l : List α) : fsP p l 0 := ⟨Int.le_refl _, by omega, fun x hx => by cases hx⟩
theorem fs_next (h : fsP p l i) (hi : i < (l.length : Int)) {d : α} (hp : p (l.getD i.toNat d) = false) : fsP p l (i + 1) := by
  obtain ⟨h1, h2, h3⟩ := h
  refine ⟨by omega, by omega, fun x hx => ?_⟩
  rw [take_succ h1 hi d] at hx
  rcases List.mem_append.1 hx with hx | hx
  · exact h3 x hx
  · rw [List.mem_singleton.1 hx]; exact hp
theorem fs_hit (h : fsP p l i) (hi : i < (l.length : Int)) {d : α} (hp : p (l.getD i.toNat d) = true) : fstI p l = i := by
  obtain ⟨h1, h2, h3⟩ := h
  have hg := getD_get h1 hi d
  rcases fst_cases p l with ⟨_, q⟩ | ⟨q1, q2, ⟨x, q3, q4⟩, q5⟩
  · rw [q _ (List.mem_of_getElem? hg)] at hp; cases hp
  · rcases Int.lt_trichotomy (fstI p l) i with c | c | c
    · have := h3 x (List.mem_iff_getElem?.2 ⟨(fstI p l).toNat, by rw [List.getElem?_take, if_pos (by omega)]; exact q3⟩)
      rw [q4] at this; cases this
    · exact c
    · have := q5 _ (List.mem_iff_getElem?.2 ⟨i.toNat, by rw [List.getElem?_take, if_pos (by omega)]; exact hg⟩)
      rw [this] at hp; cases hp
theorem fs_miss (h : fsP p l i) (hi : ¬ i < (l.length : Int)) : fstI p l = -1 := by
  obtain ⟨h1, h2, h3⟩ := h
  rw [List.take_of_length_le (by omega)] at h3
  rcases fst_cases p l with ⟨q, _⟩ | ⟨q1, q2, ⟨x, q3, q4⟩, q5⟩
  · exact q
  · rw [h3 x (List.mem_of_getElem? q3)] at q4; cases q4
end
/-! ### Indices -/
def tuV (r : M3) (h : V3) : V3 := wV (appZ (traZ r) h)
def ngV (h : V3) : V3 := wV (negV h)
def htE (o : Op3) (h : V3) : Int := if okH h = true then errO o else 1
def htV (o : Op3) (h : V3) : V3 := if htE o h = 0 then tuV o.R h else V3.mk 0 0 0
def phN (o : Op3) (h : V3) : Int := w64 (w64 (w64 (h.x * o.T.x) + w64 (h.y * o.T.y)) + w64 (h.z * o.T.z))
def phW (o : Op3) (h : V3) : Int := phN o h % 24
def hpI (o : Op3) (h : V3) : Int := if htE o h = 0 then phW o h else 0
def hkE (g : List Op3) (h : V3) : Int := if okH h = true then chkE g else 1
def imgV (g : List Op3) (h : V3) : List V3 := g.map fun o => tuV o.R h
def hofL (g : List Op3) (h : V3) : List V3 := if hkE g h = 0 then unqG cmpV (imgV g h) else []
def imInv (g : List Op3) (h : V3) (l : List V3) (i : Int) : Prop := 0 ≤ i ∧ i ≤ (g.length : Int) ∧ l = imgV (g.take i.toNat) h
theorem mod24 (n : Int) : (Int.tmod n 24 + 24) % 24 = n % 24 := by have := tmod_emod n 24; omega
theorem okH_B {h : V3} (hh : okH h = true) : BndV 512 h := by
  simp only [okH, inE, Bool.and_eq_true, decide_eq_true_eq] at hh
  exact ⟨by omega, by omega, by omega⟩
/-! ### Absent -/
def absB (o : Op3) (h : V3) : Bool := decide (tuV o.R h = h) && !decide (phW o h = 0)
def cenB (o : Op3) (h : V3) : Bool := decide (tuV o.R h = ngV h)
def whyI (g : List Op3) (h : V3) : Int := fstI (fun o => absB o h) g
def whyB (g : List Op3) (h : V3) : Bool := decide (0 ≤ whyI g h)
def whyO (g : List Op3) (h : V3) : Op3 := if 0 ≤ whyI g h then g.getD (whyI g h).toNat zerO else zerO
def absP (g : List Op3) (h : V3) : Prop := (∀ o ∈ g, Frm o) ∧ okH h = true
def isE (g : List Op3) (h : V3) : Int := hkE g h
def isB (g : List Op3) (h : V3) : Bool := if hkE g h = 0 then whyB g h else false
def cenJ (g : List Op3) (h : V3) : Int := fstI (fun o => cenB o h) g
def ceB (g : List Op3) (h : V3) : Bool := if hkE g h = 0 then decide (0 ≤ cenJ g h) else false
def ceI (g : List Op3) (h : V3) : Int := if hkE g h = 0 ∧ 0 ≤ cenJ g h then phW (g.getD (cenJ g h).toNat zerO) h else 0
def abE (g : List Op3) (l : List V3) : Int := if l.all okH = true then (if 4096 < (l.length : Int) then 2 else chkE g) else 1
def srP (g : List Op3) (l : List V3) : List V3 := if abE g l = 0 then l.filter (fun h => !whyB g h) else []
def srA (g : List Op3) (l : List V3) : List V3 := if abE g l = 0 then l.filter (fun h => whyB g h) else []
def wyE (g : List Op3) (h : V3) : Int := if hkE g h = 0 then (if whyB g h = true then 0 else 9) else hkE g h
def wyO (g : List Op3) (h : V3) : Op3 := if wyE g h = 0 then whyO g h else zerO
def alInv (l : List V3) (i : Int) : Prop := 0 ≤ i ∧ i ≤ (l.length : Int) ∧ ∀ h ∈ l.take i.toNat, okH h = true
def fsA (g : List Op3) (h : V3) (i : Int) : Prop := fsP (fun o => absB o h) g i
def fsC (g : List Op3) (h : V3) (i : Int) : Prop := fsP (fun o => cenB o h) g i
def srInv (g : List Op3) (l p a : List V3) (i : Int) : Prop := 0 ≤ i ∧ i ≤ (l.length : Int) ∧ p = (l.take i.toNat).filter (fun h => !whyB g h) ∧ a = (l.take i.toNat).filter (fun h => whyB g h)
def ixE (h : V3) : Int := if okH h = true then 0 else 1
def smV (a b : List V3) : Bool := decide (a = b)
def smVi (a b : List V3) (i : Int) : Prop := smP a b i
def dsE (g : List Op3) (l : List V3) : Int := if 4096 < (l.length : Int) ∧ (chkE g = 0 ∨ 2 < chkE g) then 2 else chkE g
theorem abE_one (g : List Op3) (h : V3) : abE g [h] = hkE g h := by
  unfold abE hkE
  simp
theorem chkE_vals (g : List Op3) : chkE g = 0 ∨ chkE g = 2 ∨ chkE g = 3 ∨ chkE g = 4 ∨ chkE g = 5 := by
  have hL := errL_vals g
  unfold chkE gE
  by_cases h1 : 192 < (g.length : Int)
  · simp [h1]
  · rw [if_neg h1]
    by_cases h2 : errL g = 0
    · rw [if_pos h2]
      by_cases h3 : grpB g = true
      · rw [if_pos h3]; exact .inl rfl
      · rw [if_neg h3]; simp
    · rw [if_neg h2]; omega
theorem hk_zero {g : List Op3} {h : V3} (e : hkE g h = 0) : okH h = true ∧ chkE g = 0 := by
  unfold hkE at e
  split at e
  · exact ⟨by assumption, e⟩
  · cases e
theorem hk_P {g : List Op3} {h : V3} (e : hkE g h = 0) : absP g h := by
  obtain ⟨h1, h2⟩ := hk_zero e
  exact ⟨(chk_grp h2).1, h1⟩
theorem ht_P {g : List Op3} {h : V3} (hP : absP g h) {o : Op3} (ho : o ∈ g) : htE o h = 0 ∧ htV o h = tuV o.R h ∧ hpI o h = phW o h := by
  have e : htE o h = 0 := by unfold htE; rw [if_pos hP.2, errO_ok.2 (hP.1 o ho)]
  exact ⟨e, by unfold htV; rw [if_pos e], by unfold hpI; rw [if_pos e]⟩
theorem ab_zero {g : List Op3} {l : List V3} (e : abE g l = 0) : (∀ h ∈ l, okH h = true) ∧ (l.length : Int) ≤ 4096 ∧ chkE g = 0 := by
  unfold abE at e
  split at e
  · rename_i h1
    split at e
    · cases e
    · rename_i h2
      exact ⟨List.all_eq_true.1 h1, by omega, e⟩
  · cases e
theorem al_next {l : List V3} {i : Int} (h : alInv l i) (hi : i < (l.length : Int)) {d : V3} (hp : okH (l.getD i.toNat d) = true) : alInv l (i + 1) := by
  obtain ⟨h1, h2, h3⟩ := h
  refine ⟨by omega, by omega, fun x hx => ?_⟩
  rw [take_succ h1 hi d] at hx
  rcases List.mem_append.1 hx with hx | hx
  · exact h3 x hx
  · rw [List.mem_singleton.1 hx]; exact hp
theorem al_bad {l : List V3} {i : Int} (h0 : 0 ≤ i) (hi : i < (l.length : Int)) {d : V3} (hp : okH (l.getD i.toNat d) = false) (g : List Op3) : abE g l = 1 := by
  unfold abE
  rw [if_neg]
  intro h
  rw [List.all_eq_true.1 h _ (getD_mem h0 hi d)] at hp
  cases hp
theorem al_end {l : List V3} {i : Int} (h : alInv l i) (hi : ¬ i < (l.length : Int)) (g : List Op3) : abE g l = if 4096 < (l.length : Int) then 2 else chkE g := by
  obtain ⟨h1, h2, h3⟩ := h
  rw [List.take_of_length_le (by omega)] at h3
  unfold abE
  rw [if_pos (List.all_eq_true.2 h3)]
theorem sr_next {g : List Op3} {l p a : List V3} {i : Int} (h : srInv g l p a i) (hi : i < (l.length : Int)) (d : V3) :
    (whyB g (l.getD i.toNat d) = true → srInv g l p (a ++ [l.getD i.toNat d]) (i + 1)) ∧ (whyB g (l.getD i.toNat d) = false → srInv g l (p ++ [l.getD i.toNat d]) a (i + 1)) := by
  obtain ⟨h1, h2, h3, h4⟩ := h
  constructor <;> intro hb <;> refine ⟨by omega, by omega, ?_, ?_⟩ <;> rw [take_succ h1 hi d, List.filter_append] <;> generalize l.getD i.toNat d = x at hb ⊢ <;> simp [hb, h3, h4]
theorem sr_len {g : List Op3} {l p a : List V3} {i : Int} (h : srInv g l p a i) : p.length ≤ i.toNat ∧ a.length ≤ i.toNat := by
  obtain ⟨h1, h2, h3, h4⟩ := h
  have e : (l.take i.toNat).length ≤ i.toNat := by rw [List.length_take]; omega
  rw [h3, h4]
  exact ⟨Nat.le_trans (List.length_filter_le _ _) e, Nat.le_trans (List.length_filter_le _ _) e⟩
end Go.Fx
