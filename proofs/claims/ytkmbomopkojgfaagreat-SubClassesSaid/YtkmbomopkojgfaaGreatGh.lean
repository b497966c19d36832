/-
  Layer 5 in Lean: each row and each column of the table has each place once.
-/
import Derived.Test.YtkmbomopkojgfaaGreatGg
set_option linter.unusedSimpArgs false
set_option linter.unusedVariables false
set_option linter.unusedSectionVars false
namespace Go.Fx
open Go
def cntI (f : Nat → Int) : Nat → Int → Int
  | 0, _ => 0
  | n + 1, x => cntI f n x + (if f n = x then 1 else 0)
theorem cnt_bnd (f : Nat → Int) (x : Int) : ∀ n, 0 ≤ cntI f n x ∧ cntI f n x ≤ n
  | 0 => ⟨Int.le_refl _, by show (0 : Int) ≤ 0; omega⟩
  | n + 1 => by
    have := cnt_bnd f x n
    unfold cntI
    split <;> constructor <;> omega
theorem cnt_none {f : Nat → Int} {x : Int} : ∀ {n : Nat}, (∀ k, k < n → f k ≠ x) → cntI f n x = 0
  | 0, _ => rfl
  | n + 1, h => by
    unfold cntI
    rw [cnt_none fun k hk => h k (by omega), if_neg (h n (by omega))]; rfl
theorem cnt_one {f : Nat → Int} {x : Int} {k : Nat} : ∀ {n : Nat}, k < n → f k = x → (∀ i, i < n → f i = x → i = k) → cntI f n x = 1
  | 0, h, _, _ => by omega
  | n + 1, h, hk, hu => by
    unfold cntI
    by_cases e : k = n
    · subst e
      rw [cnt_none fun i hi he => by have := hu i (by omega) he; omega, if_pos hk]; rfl
    · rw [cnt_one (n := n) (by omega) hk fun i hi => hu i (by omega), if_neg fun e2 => e (hu n (by omega) e2).symm]; rfl
def rowf (g : List Op3) (a : Int) (k : Nat) : Int := (rowO g (g.getD a.toNat zerO)).getD k 0
def colf (g : List Op3) (b : Int) (k : Nat) : Int := (rowO g (g.getD k zerO)).getD b.toNat 0
def cnP (g : List Op3) (a b : Int) (r c : List Int) (k : Int) : Prop := 0 ≤ k ∧ k ≤ (g.length : Int) ∧ r.length = g.length ∧ c.length = g.length ∧
  ∀ x : Nat, x < g.length → r.getD x 0 = cntI (rowf g a) k.toNat x ∧ c.getD x 0 = cntI (colf g b) k.toNat x
theorem row_at {g : List Op3} {a : Op3} {k : Nat} (hk : k < g.length) : (rowO g a).getD k 0 = idxO g (mulO a (g.getD k zerO)) := by
  simp [rowO, List.getD, hk]
theorem g_at {g : List Op3} {k : Nat} (hk : k < g.length) : g.getD k zerO ∈ g := by simp [List.getD, hk]
theorem idx_at {g : List Op3} (hnd : g.Nodup) {k : Nat} (hk : k < g.length) : idxO g (g.getD k zerO) = k := by
  have h : g.getD k zerO = g[k] := by simp [List.getD, hk]
  rw [h]
  refine idxD_at (List.getElem?_eq_getElem hk) fun i hi e => ?_
  have hil : i < g.length := by omega
  rw [List.getElem?_eq_getElem hil] at e
  have := nodup_inj hnd hil hk (Option.some.inj e)
  omega
theorem at_idx {g : List Op3} {p : Op3} (hp : p ∈ g) : g.getD (idxO g p).toNat zerO = p := by
  have := (idxD_mem hp).2.2
  rw [List.getD_eq_getElem?_getD]
  show (g[(idxD g p).toNat]?).getD zerO = p
  rw [this]; rfl
theorem row_once {g : List Op3} (h : chkE g = 0) {a : Int} (h0 : 0 ≤ a) (ha : a < (g.length : Int)) {x : Nat} (hx : x < g.length) : cntI (rowf g a) g.length x = 1 := by
  obtain ⟨hF, hnd, hone, hcl⟩ := chk_grp h
  have hA := getD_mem h0 ha zerO
  obtain ⟨c, hc, e1, e2⟩ := grp_left h hA
  have hq := hcl c hc _ (g_at hx)
  have hi := idxD_mem hq
  have hmul : mulO (g.getD a.toNat zerO) (mulO c (g.getD x zerO)) = g.getD x zerO := by
    rw [← mulO_assoc, e2, (mulO_one (hF _ (g_at hx)).T).2]
  refine cnt_one (k := (idxO g (mulO c (g.getD x zerO))).toNat) (by have := hi.2.1; have := hi.1; show (idxD g _).toNat < _; omega) ?_ fun i hil he => ?_
  · unfold rowf
    rw [row_at (by have := hi.2.1; have := hi.1; show (idxD g _).toNat < _; omega), at_idx hq, hmul, idx_at hnd hx]
  · unfold rowf at he
    rw [row_at hil, ← idx_at hnd hx] at he
    have h1 := idxO_inj (hcl _ hA _ (g_at hil)) (g_at hx) he
    have h2 : g.getD i zerO = mulO c (g.getD x zerO) := by rw [← h1, ← mulO_assoc, e1, (mulO_one (hF _ (g_at hil)).T).2]
    have := idx_at hnd hil
    rw [h2] at this
    rw [this]; omega
theorem col_once {g : List Op3} (h : chkE g = 0) {b : Int} (h0 : 0 ≤ b) (hb : b < (g.length : Int)) {x : Nat} (hx : x < g.length) : cntI (colf g b) g.length x = 1 := by
  obtain ⟨hF, hnd, hone, hcl⟩ := chk_grp h
  have hB := getD_mem h0 hb zerO
  have hbl : b.toNat < g.length := by omega
  obtain ⟨c, hc, e1, e2⟩ := grp_left h hB
  have hq := hcl _ (g_at hx) c hc
  have hi := idxD_mem hq
  have hmul : mulO (mulO (g.getD x zerO) c) (g.getD b.toNat zerO) = g.getD x zerO := by
    rw [mulO_assoc, e1, (mulO_one (hF _ (g_at hx)).T).1]
  refine cnt_one (k := (idxO g (mulO (g.getD x zerO) c)).toNat) (by have := hi.2.1; have := hi.1; show (idxD g _).toNat < _; omega) ?_ fun i hil he => ?_
  · unfold colf
    rw [row_at hbl, at_idx hq, hmul, idx_at hnd hx]
  · unfold colf at he
    rw [row_at hbl, ← idx_at hnd hx] at he
    have h1 := idxO_inj (hcl _ (g_at hil) _ hB) (g_at hx) he
    have h2 : g.getD i zerO = mulO (g.getD x zerO) c := by rw [← h1, mulO_assoc, e2, (mulO_one (hF _ (g_at hil)).T).1]
    have := idx_at hnd hil
    rw [h2] at this
    rw [this]; omega
theorem tab_at {g : List Op3} (h : chkE g = 0) {i : Int} (hi : inB g i) : (tabL g).getD i.toNat [] = rowO g (g.getD i.toNat zerO) := by
  have hl : i.toNat < g.length := by have := hi.1; have := hi.2; omega
  unfold tabL
  rw [if_pos h]
  simp [List.getD, hl]
theorem tab_len {g : List Op3} (h : chkE g = 0) : (tabL g).length = g.length := by unfold tabL; rw [if_pos h]; simp
theorem inv_len {g : List Op3} (h : chkE g = 0) : (invL g).length = g.length := by unfold invL; rw [if_pos h]; simp
theorem inv_at {g : List Op3} (h : chkE g = 0) {i : Int} (hi : inB g i) : (0 ≤ (invL g).getD i.toNat 0 ∧ (invL g).getD i.toNat 0 < (g.length : Int)) ∧ g.getD ((invL g).getD i.toNat 0).toNat zerO = invO (g.getD i.toNat zerO) ∧ invE (g.getD i.toNat zerO) = 0 := by
  obtain ⟨hF, hnd, hone, hcl⟩ := chk_grp h
  have hl : i.toNat < g.length := by have := hi.1; have := hi.2; omega
  have hA := getD_mem hi.1 hi.2 zerO
  have e : (invL g).getD i.toNat 0 = idxI (rowO g (g.getD i.toNat zerO)) (idxO g oneO) := by
    unfold invL
    rw [if_pos h]
    simp [List.getD, hl]
  rw [e]
  obtain ⟨b, hb, hab⟩ := grp_right h hA
  have hin : idxO g oneO ∈ rowO g (g.getD i.toNat zerO) := List.mem_map.2 ⟨b, hb, by rw [hab]⟩
  have hm := idxD_mem hin
  rw [rowO_len] at hm
  have hk : (idxI (rowO g (g.getD i.toNat zerO)) (idxO g oneO)).toNat < g.length := by
    have h1 := hm.1; have h2 := hm.2.1
    show (idxD _ _).toNat < _
    omega
  have h3 : (rowO g (g.getD i.toNat zerO)).getD (idxI (rowO g (g.getD i.toNat zerO)) (idxO g oneO)).toNat 0 = idxO g oneO := by
    rw [List.getD_eq_getElem?_getD]
    show ((rowO g (g.getD i.toNat zerO))[(idxD (rowO g (g.getD i.toNat zerO)) (idxO g oneO)).toNat]?).getD 0 = _
    rw [hm.2.2]; rfl
  rw [row_at hk] at h3
  have h4 := idxO_inj (hcl _ hA _ (g_at hk)) hone h3
  have h5 : invO (g.getD i.toNat zerO) = g.getD (idxI (rowO g (g.getD i.toNat zerO)) (idxO g oneO)).toNat zerO := undo_unique (inT_mod _) (hF _ (g_at hk)).T (inv_mul (hF _ hA)).2 h4
  refine ⟨⟨hm.1, hm.2.1⟩, h5.symm, ?_⟩
  rw [invE_frm (hF _ hA)]
  have hf := hF _ (g_at hk)
  rw [← h5] at hf
  exact errM_B (by decide) hf.B
theorem cn_init (g : List Op3) (a b : Int) : cnP g a b (lrep (g.length : Int) (0 : Int)) (lrep (g.length : Int) (0 : Int)) 0 := by
  have hx : ∀ x : Nat, x < g.length → (lrep (g.length : Int) (0 : Int)).getD x 0 = 0 := fun x hx => by simp [lrep, List.getD, hx]
  exact ⟨Int.le_refl _, by omega, by simp [lrep], by simp [lrep], fun x h => ⟨hx x h, hx x h⟩⟩
theorem cn_list {l : List Int} {n : Nat} {f : Nat → Int} {k : Nat} (hl : l.length = n) (hn : n ≤ 192) (hk : k ≤ 192) (h : ∀ x : Nat, x < n → l.getD x 0 = cntI f k x) {u : Int} (hu : u = f k) (h0 : 0 ≤ u) (h1 : u < (n : Int)) :
    (lset l u (w64 (l.getD u.toNat 0 + 1))).length = n ∧ ∀ x : Nat, x < n → (lset l u (w64 (l.getD u.toNat 0 + 1))).getD x 0 = cntI f (k + 1) x := by
  refine ⟨by rw [lset_len, hl], fun x hx => ?_⟩
  have hun : u.toNat < n := by omega
  have hb := cnt_bnd f (u.toNat : Nat) k
  have hw : w64 (l.getD u.toNat 0 + 1) = l.getD u.toNat 0 + 1 := by
    rw [h _ hun]; exact w64_id (by omega) (by omega)
  rw [hw]
  unfold lset cntI
  rw [List.getD_eq_getElem?_getD, List.getElem?_set]
  by_cases e : u.toNat = x
  · rw [if_pos e, if_pos (by omega), if_pos (by rw [← hu]; omega), ← h x hx, e]
    rfl
  · rw [if_neg e, if_neg (by rw [← hu]; omega), ← h x hx, List.getD_eq_getElem?_getD]
    omega
theorem cn_next {g : List Op3} (hc : chkE g = 0) {a b : Int} {r c : List Int} {k : Int} (h : cnP g a b r c k) (hk : k < (g.length : Int)) {u v : Int} (hu : u = rowf g a k.toNat) (hv : v = colf g b k.toNat) (u0 : 0 ≤ u) (u1 : u < (g.length : Int)) (v0 : 0 ≤ v) (v1 : v < (g.length : Int)) :
    cnP g a b (lset r u (w64 (r.getD u.toNat 0 + 1))) (lset c v (w64 (c.getD v.toNat 0 + 1))) (w64 (k + 1)) ∧ (decide (0 ≤ opMu g (w64 (k + 1))) = true ∧ decide (opMu g (w64 (k + 1)) < opMu g k) = true) := by
  obtain ⟨h0, h1, h2, h3, h4⟩ := h
  have hlen := chk_len hc
  obtain ⟨e1, e2, e3⟩ := opMu_next (g := g) (by unfold room; omega) h0 hk
  refine ⟨?_, e2, e3⟩
  rw [e1, show (k + 1) = ((k.toNat + 1 : Nat) : Int) by omega]
  obtain ⟨p1, p2⟩ := cn_list (f := rowf g a) (k := k.toNat) h2 hlen (by omega) (fun x hx => (h4 x hx).1) hu u0 u1
  obtain ⟨q1, q2⟩ := cn_list (f := colf g b) (k := k.toNat) h3 hlen (by omega) (fun x hx => (h4 x hx).2) hv v0 v1
  exact ⟨by omega, by omega, p1, q1, fun x hx => ⟨p2 x hx, q2 x hx⟩⟩
end Go.Fx
