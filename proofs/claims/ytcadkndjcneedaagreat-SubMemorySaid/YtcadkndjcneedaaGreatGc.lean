/-
  Layer 5 in Lean: the closure; lists in order.
-/
import Derived.Test.YtcadkndjcneedaaGreatGb
set_option linter.unusedSimpArgs false
set_option linter.unusedVariables false
set_option linter.unusedSectionVars false
namespace Go.Fx
open Go

/-! ### Lists in order -/
def putO : List Op3 → Op3 → List Op3
  | [], o => [o]
  | x :: r, o => if cmpO x o < 0 then x :: putO r o else o :: x :: r
def insO (l : List Op3) : List Op3 := l.foldl putO []
def sortO (l : List Op3) : List Op3 := insO l
theorem putO_perm (o : Op3) : ∀ l : List Op3, (putO l o).Perm (o :: l)
  | [] => List.Perm.refl _
  | x :: r => by
    unfold putO
    split
    · exact ((putO_perm o r).cons x).trans (List.Perm.swap o x r)
    · exact List.Perm.refl _
def ordO (l : List Op3) : Prop := l.Pairwise fun a b => cmpO a b ≤ 0
theorem putO_ord (o : Op3) : ∀ {l : List Op3}, ordO l → ordO (putO l o)
  | [], _ => List.pairwise_singleton _ _
  | x :: r, h => by
    have hx : ordO r ∧ ∀ y ∈ r, cmpO x y ≤ 0 := by
      rw [ordO, List.pairwise_cons] at h
      exact ⟨h.2, h.1⟩
    unfold putO
    split
    · rename_i hlt
      refine List.pairwise_cons.2 ⟨fun y hy => ?_, putO_ord o hx.1⟩
      rcases List.mem_cons.1 ((putO_perm o r).mem_iff.1 hy) with rfl | hy
      · omega
      · exact hx.2 y hy
    · rename_i hge
      have ho : cmpO o x ≤ 0 := by rw [cmpO_anti x o]; omega
      refine List.pairwise_cons.2 ⟨fun y hy => ?_, h⟩
      rcases List.mem_cons.1 hy with rfl | hy
      · exact ho
      · exact (cmpO_trans o x y).1 ho (hx.2 y hy)
theorem insO_snoc (l : List Op3) (o : Op3) : insO (l ++ [o]) = putO (insO l) o := by simp [insO, List.foldl_append]
theorem fold_perm : ∀ (l a : List Op3), (l.foldl putO a).Perm (a ++ l)
  | [], a => by simp
  | x :: r, a => by
    have h := fold_perm r (putO a x)
    refine h.trans ?_
    have h2 := (putO_perm x a).append_right r
    exact h2.trans (List.perm_middle.symm)
theorem fold_ord : ∀ (l : List Op3) {a : List Op3}, ordO a → ordO (l.foldl putO a)
  | [], _, h => h
  | x :: r, _, h => fold_ord r (putO_ord x h)
theorem insO_perm (l : List Op3) : (insO l).Perm l := by simpa [insO] using fold_perm l []
theorem insO_ord (l : List Op3) : ordO (insO l) := fold_ord l List.Pairwise.nil
/-- In order there is one list. -/
theorem ord_unique : ∀ {l m : List Op3}, ordO l → ordO m → l.Perm m → l = m
  | [], m, _, _, h => (List.nil_perm.1 h).symm
  | x :: r, [], _, _, h => by cases List.perm_nil.1 h
  | x :: r, y :: s, hl, hm, h => by
    rw [ordO, List.pairwise_cons] at hl hm
    have hxy : x = y := by
      have hx : x ∈ y :: s := h.mem_iff.1 (List.mem_cons_self ..)
      have hy : y ∈ x :: r := h.mem_iff.2 (List.mem_cons_self ..)
      rcases List.mem_cons.1 hx with e | hx
      · exact e
      · rcases List.mem_cons.1 hy with e | hy
        · exact e.symm
        · have h1 := hm.1 x hx
          have h2 := hl.1 y hy
          have h3 := cmpO_anti x y
          exact cmpO_zero.1 (by omega)
    subst hxy
    rw [ord_unique hl.2 hm.2 (List.Perm.cons_inv h)]
theorem perm_of_mem {l m : List Op3} (hl : l.Nodup) (hm : m.Nodup) (h : ∀ x, x ∈ l ↔ x ∈ m) : l.Perm m := (List.perm_ext_iff_of_nodup hl hm).2 h

/-! ### The closure -/
def inn (f : Op3 → Op3 → Op3) (x : Op3) : List Op3 → List Op3 → Option (List Op3)
  | [], a => some a
  | o :: r, a => if memO a (f x o) = true then inn f x r a else if okM (f x o).R = true ∧ a.length ≠ 192 then inn f x r (a ++ [f x o]) else none
def outC (f : Op3 → Op3 → Op3) (l : List Op3) : Nat → Nat → List Op3 → Option (List Op3)
  | 0, _, a => some a
  | k + 1, i, a => if i < a.length then (inn f (a.getD i zerO) l a).bind (outC f l k (i + 1)) else some a
def lfO (x o : Op3) : Op3 := mulO o x
def rtO (x o : Op3) : Op3 := mulO x o
def cloR (f : Op3 → Op3 → Op3) (l : List Op3) : Option (List Op3) := outC f l 193 0 [oneO]
def cloL (l : List Op3) : List Op3 := if gE l = 0 then (match cloR lfO l with | some a => insO a | none => []) else []
def cloE (l : List Op3) : Int := if gE l = 0 then (match cloR lfO l with | some _ => 0 | none => 5) else gE l
def rcS (l : List Op3) : List Op3 := match cloR rtO l with | some a => insO a | none => []
def rcB (l : List Op3) : Bool := (cloR rtO l).isSome
def dclL (l : List Op3) : List Op3 := if gE l = 0 then rcS l else []
def dclE (l : List Op3) : Int := if gE l = 0 then (if rcB l = true then 0 else 5) else gE l
theorem okM_of {o : Op3} (h : Frm o) : okM o.R = true := errM_ok.1 (errM_B (by decide) h.B)
/-- What lies in the closure on its way. -/
structure CloI (f : Op3 → Op3 → Op3) (l a : List Op3) (n : Nat) : Prop where
  nodup : a.Nodup
  len : a.length ≤ 192
  one : oneO ∈ a
  frm : ∀ o ∈ a, Frm o
  shut : ∀ k, k < n → ∀ x, a[k]? = some x → ∀ o ∈ l, f x o ∈ a
inductive Gen (l : List Op3) : Op3 → Prop
  | one : Gen l oneO
  | mul {o x : Op3} : o ∈ l → Gen l x → Gen l (mulO o x)
theorem Gen.inT {l : List Op3} {x : Op3} (h : Gen l x) : inT x.T = true := by
  cases h with
  | one => exact oneO_frm.T
  | mul _ _ => exact inT_mod _
theorem Gen.mem {l : List Op3} (hl : ∀ o ∈ l, Frm o) {o : Op3} (ho : o ∈ l) : Gen l o := by
  have := Gen.mul ho (Gen.one (l := l))
  rwa [(mulO_one (hl o ho).T).1] at this
theorem Gen.comp {l : List Op3} {x y : Op3} (hx : Gen l x) (hy : Gen l y) : Gen l (mulO x y) := by
  induction hx with
  | one => rw [(mulO_one hy.inT).2]; exact hy
  | mul ho _ ih => rw [mulO_assoc]; exact .mul ho ih
/-- Frames of the two ways of multiplying. -/
structure Way (f : Op3 → Op3 → Op3) : Prop where
  frm : ∀ {x o : Op3}, Frm x → Frm o → okM (f x o).R = true → Frm (f x o)
  gen : ∀ {l : List Op3} {x o : Op3}, (∀ o ∈ l, Frm o) → Gen l x → o ∈ l → Gen l (f x o)
theorem way_l : Way lfO := ⟨fun hx ho h => Frm.mul ho hx (errM_ok.2 h), fun _ hx ho => .mul ho hx⟩
theorem inn_ok {f : Op3 → Op3 → Op3} (W : Way f) {l : List Op3} (hl : ∀ o ∈ l, Frm o) {n : Nat} {x : Op3} : ∀ (r : List Op3) {a a' : List Op3}, inn f x r a = some a' → (∀ o ∈ r, o ∈ l) → n ≤ a.length → CloI f l a n → (∀ o ∈ a, Gen l o) → Frm x → Gen l x →
    CloI f l a' n ∧ (∀ o ∈ a', Gen l o) ∧ (∃ t, a' = a ++ t) ∧ ∀ o ∈ r, f x o ∈ a'
  | [], a, a', h, _, _, hI, hG, _, _ => by
    cases h
    exact ⟨hI, hG, ⟨[], by simp⟩, fun o ho => by cases ho⟩
  | o :: r, a, a', h, hr, hn, hI, hG, hx, hgx => by
    have hol := hr o (List.mem_cons_self ..)
    unfold inn at h
    split at h
    · rename_i hm
      obtain ⟨k1, k2, ⟨t, k3⟩, k4⟩ := inn_ok W hl r h (fun o ho => hr o (List.mem_cons_of_mem _ ho)) hn hI hG hx hgx
      refine ⟨k1, k2, ⟨t, k3⟩, fun p hp => ?_⟩
      rcases List.mem_cons.1 hp with rfl | hp
      · rw [k3]; exact List.mem_append_left _ (memO_iff.1 hm)
      · exact k4 p hp
    · rename_i hm
      split at h
      · rename_i hc
        have hnm : f x o ∉ a := fun e => hm (memO_iff.2 e)
        have hI' : CloI f l (a ++ [f x o]) n := by
          refine ⟨?_, ?_, List.mem_append_left _ hI.one, fun p hp => ?_, fun k hk y hy p hp => ?_⟩
          · rw [List.nodup_append]
            exact ⟨hI.nodup, by simp, fun y hy z hz e => hnm (by rw [← List.mem_singleton.1 hz, ← e]; exact hy)⟩
          · have := hI.len
            rw [List.length_append]; simp; omega
          · rcases List.mem_append.1 hp with hp | hp
            · exact hI.frm p hp
            · rw [List.mem_singleton.1 hp]; exact W.frm hx (hl o hol) hc.1
          · rcases Nat.lt_or_ge k a.length with hlt | hge
            · rw [List.getElem?_append_left hlt] at hy
              exact List.mem_append_left _ (hI.shut k hk y hy p hp)
            · omega
        obtain ⟨k1, k2, ⟨t, k3⟩, k4⟩ := inn_ok W hl r h (fun o ho => hr o (List.mem_cons_of_mem _ ho)) (by rw [List.length_append]; omega) hI' (fun p hp => by
          rcases List.mem_append.1 hp with hp | hp
          · exact hG p hp
          · rw [List.mem_singleton.1 hp]; exact W.gen hl hgx hol) hx hgx
        refine ⟨k1, k2, ⟨[f x o] ++ t, by rw [k3, List.append_assoc]⟩, fun p hp => ?_⟩
        rcases List.mem_cons.1 hp with rfl | hp
        · rw [k3]; exact List.mem_append_left _ (List.mem_append_right _ (List.mem_singleton.2 rfl))
        · exact k4 p hp
      · cases h
theorem nodup_le {α : Type} [DecidableEq α] : ∀ {l m : List α}, l.Nodup → (∀ x ∈ l, x ∈ m) → l.length ≤ m.length
  | [], _, _, _ => Nat.zero_le _
  | x :: r, m, hn, hs => by
    rw [List.nodup_cons] at hn
    have hx := hs x (List.mem_cons_self ..)
    have := nodup_le (l := r) (m := m.erase x) hn.2 fun y hy => (List.mem_erase_of_ne fun e => hn.1 (by rw [← e]; exact hy)).2 (hs y (List.mem_cons_of_mem _ hy))
    rw [List.length_erase_of_mem hx] at this
    have hpos : 0 < m.length := List.length_pos_of_mem hx
    rw [List.length_cons]; omega
theorem inn_some {f : Op3 → Op3 → Op3} {b : List Op3} (hok : ∀ o ∈ b, Frm o) (hlen : b.length ≤ 192) {x : Op3} : ∀ (r : List Op3) {a : List Op3}, (∀ o ∈ r, f x o ∈ b) → a.Nodup → (∀ o ∈ a, o ∈ b) → ∃ a', inn f x r a = some a' ∧ a'.Nodup ∧ (∀ o ∈ a', o ∈ b) ∧ ∃ t, a' = a ++ t
  | [], a, _, hn, hs => ⟨a, rfl, hn, hs, [], by simp⟩
  | o :: r, a, hr, hn, hs => by
    unfold inn
    split
    · exact inn_some hok hlen r (fun p hp => hr p (List.mem_cons_of_mem _ hp)) hn hs
    · rename_i hm
      have hnm : f x o ∉ a := fun e => hm (memO_iff.2 e)
      have hin := hr o (List.mem_cons_self ..)
      have hn' : (a ++ [f x o]).Nodup := by
        rw [List.nodup_append]
        exact ⟨hn, by simp, fun y hy z hz e => hnm (by rw [← List.mem_singleton.1 hz, ← e]; exact hy)⟩
      have hs' : ∀ p ∈ a ++ [f x o], p ∈ b := fun p hp => by
        rcases List.mem_append.1 hp with hp | hp
        · exact hs p hp
        · rw [List.mem_singleton.1 hp]; exact hin
      have hle : (a ++ [f x o]).length ≤ b.length := nodup_le hn' hs'
      rw [if_pos ⟨okM_of (hok _ hin), by rw [List.length_append] at hle; simp at hle; omega⟩]
      obtain ⟨a', h1, h2, h3, t, h4⟩ := inn_some hok hlen r (fun p hp => hr p (List.mem_cons_of_mem _ hp)) hn' hs'
      exact ⟨a', h1, h2, h3, [f x o] ++ t, by rw [h4, List.append_assoc]⟩
theorem outC_ok {f : Op3 → Op3 → Op3} (W : Way f) {l : List Op3} (hl : ∀ o ∈ l, Frm o) : ∀ (k i : Nat) {a a' : List Op3}, outC f l k i a = some a' → i + k = 193 → i ≤ a.length → CloI f l a i → (∀ o ∈ a, Gen l o) → CloI f l a' a'.length ∧ ∀ o ∈ a', Gen l o
  | 0, i, a, a', h, hk, hi, hI, hG => by have := hI.len; omega
  | k + 1, i, a, a', h, hk, hi, hI, hG => by
    unfold outC at h
    split at h
    · rename_i hlt
      cases hn : inn f (a.getD i zerO) l a with
      | none => rw [hn] at h; cases h
      | some b =>
        rw [hn] at h
        have hx : a[i]? = some (a.getD i zerO) := by simp [List.getD, hlt]
        have hxm := List.mem_of_getElem? hx
        obtain ⟨k1, k2, ⟨t, k3⟩, k4⟩ := inn_ok W hl l hn (fun o ho => ho) hi hI hG (hI.frm _ hxm) (hG _ hxm)
        refine outC_ok W hl k (i + 1) h (by omega) (by rw [k3, List.length_append]; omega) ⟨k1.nodup, k1.len, k1.one, k1.frm, fun j hj y hy o ho => ?_⟩ k2
        rcases Nat.lt_or_ge j i with h1 | h1
        · exact k1.shut j h1 y hy o ho
        · have : j = i := by omega
          subst this
          rw [k3, List.getElem?_append_left hlt, hx] at hy
          cases hy
          exact k4 o ho
    · rename_i hge
      cases h
      have : i = a.length := by omega
      subst this
      exact ⟨hI, hG⟩
theorem outC_some {f : Op3 → Op3 → Op3} {l b : List Op3} (hok : ∀ o ∈ b, Frm o) (hlen : b.length ≤ 192) (hcl : ∀ x ∈ b, ∀ o ∈ l, f x o ∈ b) : ∀ (k i : Nat) {a : List Op3}, a.Nodup → (∀ o ∈ a, o ∈ b) → ∃ a', outC f l k i a = some a'
  | 0, i, a, _, _ => ⟨a, rfl⟩
  | k + 1, i, a, hn, hs => by
    unfold outC
    split
    · rename_i hlt
      have hx : a[i]? = some (a.getD i zerO) := by simp [List.getD, hlt]
      obtain ⟨a', h1, h2, h3, _⟩ := inn_some hok hlen l (fun o ho => hcl _ (hs _ (List.mem_of_getElem? hx)) o ho) hn hs
      rw [h1]
      exact outC_some hok hlen hcl k (i + 1) h2 h3
    · exact ⟨a, rfl⟩
theorem clo_init (f : Op3 → Op3 → Op3) (l : List Op3) : CloI f l [oneO] 0 := ⟨by simp, by simp, by simp, fun o ho => by rw [List.mem_singleton.1 ho]; exact oneO_frm, fun k hk => by omega⟩
theorem clo_gen {f : Op3 → Op3 → Op3} (W : Way f) {l a : List Op3} (hl : ∀ o ∈ l, Frm o) (h : cloR f l = some a) : CloI f l a a.length ∧ ∀ o ∈ a, Gen l o :=
  outC_ok W hl 193 0 h rfl (Nat.zero_le _) (clo_init f l) fun o ho => by rw [List.mem_singleton.1 ho]; exact .one
theorem clo_shut {f : Op3 → Op3 → Op3} {l a : List Op3} (h : CloI f l a a.length) : ∀ x ∈ a, ∀ o ∈ l, f x o ∈ a := fun x hx o ho => by
  obtain ⟨k, hk⟩ := List.getElem?_of_mem hx
  exact h.shut k (List.getElem?_eq_some_iff.1 hk).1 x hk o ho
/-- The closure, when there is one, is what the maps generate. -/
theorem clo_iff_l {l a : List Op3} (hl : ∀ o ∈ l, Frm o) (h : cloR lfO l = some a) (x : Op3) : x ∈ a ↔ Gen l x := by
  obtain ⟨h1, h2⟩ := clo_gen way_l hl h
  refine ⟨h2 x, fun hx => ?_⟩
  induction hx with
  | one => exact h1.one
  | mul ho _ ih => exact clo_shut h1 _ ih _ ho
/-- Where what they generate is finite and small, there is one. -/
theorem clo_some {f : Op3 → Op3 → Op3} (W : Way f) {l b : List Op3} (hl : ∀ o ∈ l, Frm o) (hb : ∀ o ∈ b, Frm o) (hlen : b.length ≤ 192) (hg : ∀ x, x ∈ b ↔ Gen l x) : ∃ a, cloR f l = some a :=
  outC_some hb hlen (fun x hx o ho => (hg _).2 (W.gen hl ((hg x).1 hx) ho)) 193 0 (by simp) fun o ho => by rw [List.mem_singleton.1 ho]; exact (hg _).2 .one
/-! ### The rounds of the closure -/
def seenP (a : List Op3) (m : List (Op3 × Int)) : Prop := ∀ p, mgetD eqO m p = if p ∈ a then 1 else 0
structure CoI (l a : List Op3) (m : List (Op3 × Int)) : Prop where
  len : a.length ≤ 192
  seen : seenP a m
  frm : ∀ o ∈ a, Frm o
  gen : gE l = 0
def coMu (i : Int) : Int := 193 - i
def coInv (l a : List Op3) (m : List (Op3 × Int)) (i : Int) : Prop := 0 ≤ i ∧ i ≤ (a.length : Int) ∧ CoI l a m ∧ cloR lfO l = outC lfO l (193 - i.toNat) i.toNat a
def ciInv (l : List Op3) (i : Int) (a : List Op3) (m : List (Op3 × Int)) (j : Int) : Prop :=
  (0 ≤ i ∧ i < (a.length : Int)) ∧ (0 ≤ j ∧ j ≤ (l.length : Int)) ∧ CoI l a m ∧ cloR lfO l = (inn lfO (a.getD i.toNat zerO) (l.drop j.toNat) a).bind (outC lfO l (192 - i.toNat) (i.toNat + 1))
theorem co_init {l : List Op3} (h : gE l = 0) : coInv l [oneO] (mset eqO [] oneO 1) 0 :=
  ⟨by omega, by simp, ⟨by simp, fun p => by
    rw [mget_set]
    by_cases e : oneO = p
    · rw [if_pos e, if_pos (by simp [e])]
    · rw [if_neg e, if_neg (by simp; exact fun h => e h.symm)]
      rfl, fun o ho => by rw [List.mem_singleton.1 ho]; exact oneO_frm, h⟩, rfl⟩
theorem ci_init {l a : List Op3} {m : List (Op3 × Int)} {i : Int} (h : coInv l a m i) (hi : i < (a.length : Int)) : ciInv l i a m 0 := by
  obtain ⟨h0, h1, h2, h3⟩ := h
  have hl := h2.len
  refine ⟨⟨h0, hi⟩, ⟨by omega, by omega⟩, h2, ?_⟩
  rw [h3, show 193 - i.toNat = (192 - i.toNat) + 1 by omega]
  show (if i.toNat < a.length then _ else _) = _
  rw [if_pos (by omega)]
  rfl
theorem co_end {l a : List Op3} {m : List (Op3 × Int)} {i : Int} (h : coInv l a m i) (hi : ¬ i < (a.length : Int)) : (sortO a, ((0 : Int), ())) = (cloL l, (cloE l, ())) := by
  obtain ⟨h0, h1, h2, h3⟩ := h
  have hl := h2.len
  have e : cloR lfO l = some a := by
    rw [h3, show 193 - i.toNat = (192 - i.toNat) + 1 by omega]
    show (if i.toNat < a.length then _ else _) = _
    rw [if_neg (by omega)]
  unfold cloL cloE
  rw [if_pos h2.gen, if_pos h2.gen, e]
  rfl
theorem ci_end {l a : List Op3} {m : List (Op3 × Int)} {i j : Int} (h : ciInv l i a m j) (hj : ¬ j < (l.length : Int)) :
    coInv l a m (w64 (i + 1)) ∧ (decide (0 ≤ coMu (w64 (i + 1))) = true ∧ decide (coMu (w64 (i + 1)) < coMu i) = true) := by
  obtain ⟨⟨h0, h1⟩, ⟨h2, h3⟩, h4, h5⟩ := h
  have hl := h4.len
  have e : w64 (i + 1) = i + 1 := w64_id (by omega) (by omega)
  rw [e]
  refine ⟨⟨by omega, by omega, h4, ?_⟩, decide_eq_true (by unfold coMu; omega), decide_eq_true (by unfold coMu; omega)⟩
  rw [h5, List.drop_of_length_le (by omega), show 193 - (i + 1).toNat = 192 - i.toNat by omega, show (i + 1).toNat = i.toNat + 1 by omega]
  rfl
theorem ci_at {l a : List Op3} {m : List (Op3 × Int)} {i j : Int} (h : ciInv l i a m j) : 0 ≤ i ∧ i < (a.length : Int) ∧ 0 ≤ j := ⟨h.1.1, h.1.2, h.2.1.1⟩
theorem ci_len {l a : List Op3} {m : List (Op3 × Int)} {i j : Int} (h : ciInv l i a m j) : a.length ≤ 192 := h.2.2.1.len
theorem drop_at {l : List Op3} {j : Int} (h0 : 0 ≤ j) (hj : j < (l.length : Int)) : l.drop j.toNat = l.getD j.toNat zerO :: l.drop (j + 1).toNat := by
  have hlt : j.toNat < l.length := by omega
  rw [List.drop_eq_getElem_cons hlt, show (j + 1).toNat = j.toNat + 1 by omega]
  simp [List.getD, hlt]
/-- What one map brings. -/
theorem ci_frm {l a : List Op3} {m : List (Op3 × Int)} {i j : Int} (h : ciInv l i a m j) (hj : j < (l.length : Int)) : Frm (a.getD i.toNat zerO) ∧ Frm (l.getD j.toNat zerO) :=
  ⟨h.2.2.1.frm _ (getD_mem h.1.1 h.1.2 _), gE_frm h.2.2.1.gen _ (getD_mem h.2.1.1 hj _)⟩
theorem sel_zero {e : Int} {o : Op3} (h : e = 0) : selO e o = o := if_pos h
theorem ci_step {l a b : List Op3} {m m' : List (Op3 × Int)} {i j : Int} (hb : l.length * 96 ≤ room) (h : ciInv l i a m j) (hj : j < (l.length : Int)) (hI : CoI l b m') (hi : i < (b.length : Int)) (hx : b.getD i.toNat zerO = a.getD i.toNat zerO)
    (hn : inn lfO (a.getD i.toNat zerO) (l.drop j.toNat) a = inn lfO (a.getD i.toNat zerO) (l.drop (j + 1).toNat) b) : ciInv l i b m' (w64 (j + 1)) ∧ (decide (0 ≤ opMu l (w64 (j + 1))) = true ∧ decide (opMu l (w64 (j + 1)) < opMu l j) = true) := by
  obtain ⟨⟨h0, h1⟩, ⟨h2, h3⟩, h4, h5⟩ := h
  obtain ⟨e1, e2, e3⟩ := opMu_next hb h2 hj
  refine ⟨?_, e2, e3⟩
  rw [e1]
  refine ⟨⟨h0, hi⟩, ⟨by omega, by omega⟩, hI, ?_⟩
  rw [h5, hn, hx]
theorem ci_hit {l a : List Op3} {m : List (Op3 × Int)} {i j : Int} (hb : l.length * 96 ≤ room) (h : ciInv l i a m j) (hj : j < (l.length : Int)) (h1 : mulE (l.getD j.toNat zerO) (a.getD i.toNat zerO) = 0)
    (h2 : 0 < mgetD eqO m (selO (mulE (l.getD j.toNat zerO) (a.getD i.toNat zerO)) (mulO (l.getD j.toNat zerO) (a.getD i.toNat zerO)))) : ciInv l i a m (w64 (j + 1)) ∧ (decide (0 ≤ opMu l (w64 (j + 1))) = true ∧ decide (opMu l (w64 (j + 1)) < opMu l j) = true) := by
  rw [sel_zero h1, h.2.2.1.seen] at h2
  have hm : mulO (l.getD j.toNat zerO) (a.getD i.toNat zerO) ∈ a := by
    by_cases e : mulO (l.getD j.toNat zerO) (a.getD i.toNat zerO) ∈ a
    · exact e
    · rw [if_neg e] at h2; omega
  refine ci_step hb h hj h.2.2.1 h.1.2 rfl ?_
  rw [drop_at h.2.1.1 hj]
  show (if memO a (mulO (l.getD j.toNat zerO) (a.getD i.toNat zerO)) = true then _ else _) = _
  rw [if_pos (memO_iff.2 hm)]
theorem ci_miss {l a : List Op3} {m : List (Op3 × Int)} {i j : Int} (h : ciInv l i a m j) (h1 : mulE (l.getD j.toNat zerO) (a.getD i.toNat zerO) = 0)
    (h2 : ¬ 0 < mgetD eqO m (selO (mulE (l.getD j.toNat zerO) (a.getD i.toNat zerO)) (mulO (l.getD j.toNat zerO) (a.getD i.toNat zerO)))) : mulO (l.getD j.toNat zerO) (a.getD i.toNat zerO) ∉ a := fun hm => by
  rw [sel_zero h1, h.2.2.1.seen, if_pos hm] at h2
  omega
theorem ci_none {l a : List Op3} {m : List (Op3 × Int)} {i j : Int} (h : ciInv l i a m j) (hj : j < (l.length : Int)) (hm : mulO (l.getD j.toNat zerO) (a.getD i.toNat zerO) ∉ a) (hc : ¬ (okM (mulO (l.getD j.toNat zerO) (a.getD i.toNat zerO)).R = true ∧ a.length ≠ 192)) :
    (([] : List Op3), ((5 : Int), ())) = (cloL l, (cloE l, ())) := by
  have e : cloR lfO l = none := by
    rw [h.2.2.2, drop_at h.2.1.1 hj]
    show ((if memO a (mulO (l.getD j.toNat zerO) (a.getD i.toNat zerO)) = true then _ else if okM (mulO (l.getD j.toNat zerO) (a.getD i.toNat zerO)).R = true ∧ a.length ≠ 192 then _ else none).bind _) = none
    rw [if_neg fun e => hm (memO_iff.1 e), if_neg hc]
    rfl
  unfold cloL cloE
  rw [if_pos h.2.2.1.gen, if_pos h.2.2.1.gen, e]
theorem ci_full {l a : List Op3} {m : List (Op3 × Int)} {i j : Int} (h : ciInv l i a m j) (hj : j < (l.length : Int)) (h1 : mulE (l.getD j.toNat zerO) (a.getD i.toNat zerO) = 0)
    (h2 : ¬ 0 < mgetD eqO m (selO (mulE (l.getD j.toNat zerO) (a.getD i.toNat zerO)) (mulO (l.getD j.toNat zerO) (a.getD i.toNat zerO)))) (h4 : (a.length : Int) = 192) : (([] : List Op3), ((5 : Int), ())) = (cloL l, (cloE l, ())) :=
  ci_none h hj (ci_miss h h1 h2) fun e => e.2 (by omega)
theorem ci_over {l a : List Op3} {m : List (Op3 × Int)} {i j : Int} (h : ciInv l i a m j) (hj : j < (l.length : Int)) (h1 : ¬ mulE (l.getD j.toNat zerO) (a.getD i.toNat zerO) = 0) : (([] : List Op3), ((5 : Int), ())) = (cloL l, (cloE l, ())) := by
  obtain ⟨f1, f2⟩ := ci_frm h hj
  have he : ¬ errM (mulZ (l.getD j.toNat zerO).R (a.getD i.toNat zerO).R) = 0 := by rw [← mulE_frm f2 f1]; exact h1
  exact ci_none h hj (fun hm => he (errM_B (by decide) (h.2.2.1.frm _ hm).B)) fun e => he (errM_ok.2 e.1)
theorem ci_add {l a : List Op3} {m : List (Op3 × Int)} {i j : Int} (hb : l.length * 96 ≤ room) (h : ciInv l i a m j) (hj : j < (l.length : Int)) (h1 : mulE (l.getD j.toNat zerO) (a.getD i.toNat zerO) = 0)
    (h2 : ¬ 0 < mgetD eqO m (selO (mulE (l.getD j.toNat zerO) (a.getD i.toNat zerO)) (mulO (l.getD j.toNat zerO) (a.getD i.toNat zerO)))) (h4 : ¬ (a.length : Int) = 192) :
    ciInv l i (lapp a [selO (mulE (l.getD j.toNat zerO) (a.getD i.toNat zerO)) (mulO (l.getD j.toNat zerO) (a.getD i.toNat zerO))]) (mset eqO m (selO (mulE (l.getD j.toNat zerO) (a.getD i.toNat zerO)) (mulO (l.getD j.toNat zerO) (a.getD i.toNat zerO))) 1) (w64 (j + 1)) ∧
      (decide (0 ≤ opMu l (w64 (j + 1))) = true ∧ decide (opMu l (w64 (j + 1)) < opMu l j) = true) := by
  have hm := ci_miss h h1 h2
  rw [sel_zero h1]
  obtain ⟨f1, f2⟩ := ci_frm h hj
  have hE : errM (mulZ (l.getD j.toNat zerO).R (a.getD i.toNat zerO).R) = 0 := by rw [← mulE_frm f2 f1]; exact h1
  have hlen := h.2.2.1.len
  have hi := h.1.2
  have hit : i.toNat < a.length := by have := h.1.1; omega
  refine ci_step hb h hj ⟨?_, fun p => ?_, fun o ho => ?_, h.2.2.1.gen⟩ ?_ ?_ ?_
  · show (a ++ [_]).length ≤ 192
    rw [List.length_append]; simp; omega
  · show mgetD eqO (mset eqO m _ 1) p = if p ∈ a ++ [mulO (l.getD j.toNat zerO) (a.getD i.toNat zerO)] then 1 else 0
    rw [mget_set, h.2.2.1.seen]
    have hmem : p ∈ a ++ [mulO (l.getD j.toNat zerO) (a.getD i.toNat zerO)] ↔ (mulO (l.getD j.toNat zerO) (a.getD i.toNat zerO) = p ∨ p ∈ a) := by
      rw [List.mem_append, List.mem_singleton]
      exact ⟨fun h => h.elim .inr fun h => .inl h.symm, fun h => h.elim (fun h => .inr h.symm) .inl⟩
    simp only [hmem]
    by_cases e : mulO (l.getD j.toNat zerO) (a.getD i.toNat zerO) = p <;> by_cases e2 : p ∈ a <;> simp only [e, e2, if_true, if_false, true_or, or_true, or_self, or_false, false_or]
  · rcases List.mem_append.1 ho with ho | ho
    · exact h.2.2.1.frm o ho
    · rw [List.mem_singleton.1 ho]; exact Frm.mul f2 f1 hE
  · show i < ((a ++ [_]).length : Int)
    rw [List.length_append]; simp; omega
  · show (a ++ [_]).getD i.toNat zerO = _
    simp only [List.getD_eq_getElem?_getD]
    rw [List.getElem?_append_left hit]
  · rw [drop_at h.2.1.1 hj]
    show (if memO a (mulO (l.getD j.toNat zerO) (a.getD i.toNat zerO)) = true then _ else if okM (mulO (l.getD j.toNat zerO) (a.getD i.toNat zerO)).R = true ∧ a.length ≠ 192 then _ else none) = _
    rw [if_neg fun e => hm (memO_iff.1 e), if_pos ⟨errM_ok.1 hE, by omega⟩]
    rfl
end Go.Fx
