/-
  What the walks through the maps' code ask for.
-/
import Derived.Test.YthljaepanhdmiaaKr
namespace Go.Fx
open Go

theorem k24 : inM 24 := ⟨by decide, by decide⟩
theorem addT_zero (t : V3) : addT t (V3.mk 0 0 0) = modV 24 t := by
  unfold addT; rw [addV_zero]
theorem shf1 {M x t : Int} (h : M = 24 ∨ M = 48 ∨ M = 96 ∨ M = 192) (h1 : 0 ≤ x) (h2 : x < M) : w64 (x + Int.tmod t 24 * Int.tdiv M 24) % M = (x + M / 24 * t) % M := by
  have hr : (t.tmod 24).natAbs < (24 : Int).natAbs := by rw [Int.natAbs_tmod]; exact Nat.mod_lt _ (by decide)
  have e := tmod_emod t 24
  have q : Int.tdiv 24 24 = 1 ∧ Int.tdiv 48 24 = 2 ∧ Int.tdiv 96 24 = 4 ∧ Int.tdiv 192 24 = 8 := by decide
  have d : (24 : Int) / 24 = 1 ∧ (48 : Int) / 24 = 2 ∧ (96 : Int) / 24 = 4 ∧ (192 : Int) / 24 = 8 := by decide
  rcases h with rfl | rfl | rfl | rfl
  · rw [q.1, d.1, w64_id (by omega) (by omega)]; omega
  · rw [q.2.1, d.2.1, w64_id (by omega) (by omega)]; omega
  · rw [q.2.2.1, d.2.2.1, w64_id (by omega) (by omega)]; omega
  · rw [q.2.2.2, d.2.2.2, w64_id (by omega) (by omega)]; omega
theorem shf_ok {p : Pt} (h : frmP p = true) (t : V3) : plaP p.M (V3.mk (w64 (p.X.x + Int.tmod t.x 24 * Int.tdiv p.M 24)) (w64 (p.X.y + Int.tmod t.y 24 * Int.tdiv p.M 24)) (w64 (p.X.z + Int.tmod t.z 24 * Int.tdiv p.M 24))) = shfX p t ∧ plaE p.M = 0 := by
  have hr := frmP_rgt h
  obtain ⟨h1, ⟨a1, a2⟩, ⟨b1, b2⟩, c1, c2⟩ := frmP_iff.1 h
  refine ⟨?_, by unfold plaE; rw [if_pos hr]⟩
  unfold plaP; rw [if_pos hr]
  show Pt.mk p.M _ = Pt.mk p.M _
  congr 1
  simp only [modV, addV, scaV, V3.mk.injEq]
  exact ⟨shf1 h1 a1 a2, shf1 h1 b1 b2, shf1 h1 c1 c2⟩
/-! ### Errors of lists -/
theorem mem_at {l : List Op3} {i : Int} (h0 : 0 ≤ i) (h1 : i < (l.length : Int)) (d : Op3) : l.getD i.toNat d ∈ l ∧ l.take (i + 1).toNat = l.take i.toNat ++ [l.getD i.toNat d] := by
  have hl : i.toNat < l.length := by omega
  have e : l.getD i.toNat d = l[i.toNat] := by rw [List.getD_eq_getElem?_getD, List.getElem?_eq_getElem hl]; rfl
  rw [e]
  refine ⟨List.getElem_mem _, ?_⟩
  rw [show (i + 1).toNat = i.toNat + 1 by omega, List.take_succ_eq_append_getElem hl]
theorem ch_bad {l : List Op3} {i : Int} (h0 : 0 ≤ i) (h1 : i < (l.length : Int)) {d : Op3} (he : errO (l.getD i.toNat d) = 3) : (3, ()) = (errL l, ()) := by
  have hm := (mem_at h0 h1 d).1
  unfold errL
  rw [if_pos (List.any_eq_true.2 ⟨_, hm, by rw [he]; rfl⟩)]
theorem errL_snoc {l : List Op3} {o : Op3} (hl : ∀ o ∈ l, errO o ≠ 3) (ho : errO o ≠ 3) : errL (l ++ [o]) = if errO o = 4 then 4 else errL l := by
  have n3 : ∀ r : List Op3, (∀ o ∈ r, errO o ≠ 3) → (r.any fun o => decide (errO o = 3)) = false := fun r hr => by
    rw [Bool.eq_false_iff]; intro h
    obtain ⟨x, hx, e⟩ := List.any_eq_true.1 h
    exact hr x hx (of_decide_eq_true e)
  have a := n3 l hl
  have b := n3 (l ++ [o]) fun x hx => by
    rcases List.mem_append.1 hx with hx | hx
    · exact hl x hx
    · rw [List.mem_singleton.1 hx]; exact ho
  unfold errL
  rw [a, b]
  simp only [Bool.false_eq_true, if_false, List.any_append, List.any_cons, List.any_nil, Bool.or_false]
  by_cases h4 : errO o = 4
  · simp [h4]
  · simp [h4]
theorem ch_next {l : List Op3} {i w : Int} (hb : l.length * 96 ≤ reach) (hI : chInv l i w) (h1 : i < (l.length : Int)) {d : Op3} (h3 : errO (l.getD i.toNat d) ≠ 3) {w' : Int} (hw : w' = if errO (l.getD i.toNat d) = 4 then 4 else w) :
    chInv l (w64 (i + 1)) w' ∧ ((decide (0 ≤ opMu l (w64 (i + 1)))) = true ∧ (decide (opMu l (w64 (i + 1)) < opMu l i)) = true) := by
  obtain ⟨i0, i1, i2, i3⟩ := hI
  unfold reach at hb
  obtain ⟨hm, ht⟩ := mem_at i0 h1 d
  have e : w64 (i + 1) = i + 1 := w64_id (by omega) (by omega)
  rw [e]
  refine ⟨⟨by omega, by omega, ?_, ?_⟩, decide_eq_true (by unfold opMu; omega), decide_eq_true (by unfold opMu; omega)⟩
  · rw [ht]
    intro o ho
    rcases List.mem_append.1 ho with ho | ho
    · exact i2 o ho
    · rw [List.mem_singleton.1 ho]; exact h3
  · rw [ht, errL_snoc i2 h3, hw, i3]
theorem ch_end {l : List Op3} {i w : Int} (hI : chInv l i w) (h1 : ¬ i < (l.length : Int)) : (w, ()) = (errL l, ()) := by
  obtain ⟨i0, i1, i2, i3⟩ := hI
  rw [i3, List.take_of_length_le (by omega)]
/-! ### Products -/
theorem row24 {x y z a b c : Int} (ha : 0 ≤ a ∧ a ≤ 23) (hb : 0 ≤ b ∧ b ≤ 23) (hc : 0 ≤ c ∧ c ≤ 23) : r24 (w64 (r24 (w64 (r24 (0 + w64 (r24 x * a)) + w64 (r24 y * b))) + w64 (r24 z * c))) = (x * a + y * b + z * c) % 24 := by
  have m : ∀ u v : Int, (0 ≤ v ∧ v ≤ 23) → w64 (r24 u * v) = (u % 24) * v ∧ 0 ≤ (u % 24) * v ∧ (u % 24) * v ≤ 529 := fun u v hv => by
    rw [r24_eq]
    have h1 : 0 ≤ (u % 24) * v := Int.mul_nonneg (by omega) hv.1
    have h2 := mulB (a := u % 24) (b := v) 23 23 (by omega) (by omega) (by omega) hv.2
    exact ⟨w64_id (by omega) (by omega), h1, by omega⟩
  have md : ∀ u v : Int, ((u % 24) * v) % 24 = (u * v) % 24 := fun u v => by rw [Int.mul_emod, Int.emod_emod_of_dvd _ (Int.dvd_refl 24), ← Int.mul_emod]
  obtain ⟨p1, p2, p3⟩ := m x a ha
  obtain ⟨q1, q2, q3⟩ := m y b hb
  obtain ⟨s1, s2, s3⟩ := m z c hc
  have e1 := md x a
  have e2 := md y b
  have e3 := md z c
  rw [p1, q1, s1, r24_eq, r24_eq, r24_eq]
  generalize x % 24 * a = P at *
  generalize y % 24 * b = Q at *
  generalize z % 24 * c = S at *
  generalize x * a = P' at *
  generalize y * b = Q' at *
  generalize z * c = S' at *
  rw [w64_id (x := (0 + P) % 24 + Q) (by omega) (by omega), w64_id (x := ((0 + P) % 24 + Q) % 24 + S) (by omega) (by omega)]
  omega
theorem shi_ok (r : M3) {t : V3} (h : inT t = true) : V3.mk (r24 (w64 (r24 (w64 (r24 (0 + w64 (r24 r.xx * t.x)) + w64 (r24 r.xy * t.y))) + w64 (r24 r.xz * t.z)))) (r24 (w64 (r24 (w64 (r24 (0 + w64 (r24 r.yx * t.x)) + w64 (r24 r.yy * t.y))) + w64 (r24 r.yz * t.z)))) (r24 (w64 (r24 (w64 (r24 (0 + w64 (r24 r.zx * t.x)) + w64 (r24 r.zy * t.y))) + w64 (r24 r.zz * t.z)))) = shiT r t := by
  obtain ⟨a, b, c⟩ := inT_iff.1 h
  rw [row24 a b c, row24 a b c, row24 a b c]; rfl
theorem mul_T (a b : Op3) : addT (shiT a.R b.T) a.T = (mulO a b).T := by
  show eqV 24 (addV (modV 24 (appZ a.R b.T)) a.T) (addV (appZ a.R b.T) a.T)
  exact eqV_add (eqV_mod _ _) (eqV.refl _ _)
theorem mul_R {a b : Op3} (ha : errM a.R = 0) (hb : errM b.R = 0) : wM (mulZ a.R b.R) = mulZ a.R b.R := wM_id (by decide) (mulZ_B (okM_B (errM_ok.1 ha)) (okM_B (errM_ok.1 hb)))
theorem inT_B {t : V3} (h : inT t = true) : (-24 ≤ t.x ∧ t.x ≤ 24) ∧ (-24 ≤ t.y ∧ t.y ≤ 24) ∧ (-24 ≤ t.z ∧ t.z ≤ 24) := by
  rw [inT_iff] at h; omega
/-- All parts within k. -/
def BndV (k : Int) (v : V3) : Prop := (-k ≤ v.x ∧ v.x ≤ k) ∧ (-k ≤ v.y ∧ v.y ≤ k) ∧ (-k ≤ v.z ∧ v.z ≤ k)
theorem appB {k l : Int} {m : M3} {v : V3} (hm : Bnd k m) (hv : BndV l v) : BndV (3 * (k * l)) (appZ m v) :=
  ⟨dotB k l hm.xx hm.xy hm.xz hv.1 hv.2.1 hv.2.2, dotB k l hm.yx hm.yy hm.yz hv.1 hv.2.1 hv.2.2, dotB k l hm.zx hm.zy hm.zz hv.1 hv.2.1 hv.2.2⟩
theorem wV_id {k : Int} {v : V3} (hk : k ≤ 9223372036854775807) (h : BndV k v) : wV v = v := by
  obtain ⟨h1, h2, h3⟩ := h
  unfold wV
  rw [w64_id (by omega) (by omega), w64_id (by omega) (by omega), w64_id (by omega) (by omega)]
theorem addB {k l : Int} {a b : V3} (ha : BndV k a) (hb : BndV l b) : BndV (k + l) (addV a b) := by
  obtain ⟨h1, h2, h3⟩ := ha
  obtain ⟨h4, h5, h6⟩ := hb
  exact ⟨⟨by simp only [addV]; omega, by simp only [addV]; omega⟩, ⟨by simp only [addV]; omega, by simp only [addV]; omega⟩, ⟨by simp only [addV]; omega, by simp only [addV]; omega⟩⟩
theorem sml_pre {a b : Op3} (ha : sml a) (hb : sml b) : mulPre a b := ⟨ha.1, hb.1, ha.2, hb.2⟩
theorem frm_sml {o : Op3} (h : Frm o) : sml o := ⟨errM_B (by decide) h.B, h.T⟩
theorem one_sml : sml oneO := frm_sml oneO_frm
theorem errL_pre {a b : Op3} (h : errL [a, b] = 0) : mulPre a b := by
  obtain ⟨ha, hb⟩ := frm_errL h
  exact sml_pre (frm_sml ha) (frm_sml hb)
/-! ### Powers -/
theorem pw_init {o : Op3} {n : Int} (hn : -1000 ≤ n ∧ n ≤ 1000) : pwInv o n (powB o n) (if errO o = 0 ∧ n < 0 then -n else n) (powF o n) oneO := by
  refine ⟨rfl, fun h => ?_, ?_⟩
  · unfold powF at h
    split at h
    · rename_i h0
      by_cases hneg : n < 0
      · rw [if_pos hneg] at h
        rw [if_pos ⟨h0, hneg⟩]
        refine ⟨by omega, by omega, ?_, one_sml⟩
        unfold powB; rw [if_pos ⟨h0, hneg⟩]; unfold selO; rw [if_pos h]
        exact ⟨(invE_ok h).2, inT_mod _⟩
      · rw [if_neg fun h => hneg h.2]
        refine ⟨by omega, by omega, ?_, one_sml⟩
        unfold powB; rw [if_neg fun h => hneg h.2]
        exact frm_sml (errO_ok.1 h0)
    · exact absurd h (by assumption)
  · unfold powS
    by_cases h : errO o = 0 ∧ n < 0
    · rw [if_pos h, show (-n).toNat = n.natAbs by omega]
    · rw [if_neg h]
      by_cases h0 : errO o = 0
      · have : ¬ n < 0 := fun h' => h ⟨h0, h'⟩
        rw [show n.toNat = n.natAbs by omega]
      · have : powF o n ≠ 0 := by unfold powF; rw [if_neg h0]; exact h0
        rw [goL_err this, goL_err this]
theorem pw_next {o : Op3} {n k : Int} {w p z : Op3} {e : Int} (hI : pwInv o n w k 0 p) (hk : 0 < k) (hz : z = selO (errM (mulO w p).R) (mulO w p)) (he : e = errM (mulO w p).R) :
    pwInv o n w (w64 (k - 1)) e z ∧ ((decide (0 ≤ pwMu (w64 (k - 1)))) = true ∧ (decide (pwMu (w64 (k - 1)) < pwMu k)) = true) := by
  obtain ⟨i1, i2, i3⟩ := hI
  obtain ⟨j1, j2, j3, j4⟩ := i2 rfl
  have w1 : w64 (k - 1) = k - 1 := w64_id (by omega) (by omega)
  rw [w1]
  refine ⟨⟨i1, fun h => ⟨by omega, by omega, j3, ?_⟩, ?_⟩, decide_eq_true (by unfold pwMu; omega), decide_eq_true (by unfold pwMu; omega)⟩
  · rw [he] at h
    rw [hz]; unfold selO; rw [if_pos h]
    exact ⟨h, inT_mod _⟩
  · rw [← i3, show k.toNat = (k - 1).toNat + 1 by omega]
    show goL w (k - 1).toNat (z, e) = goL w ((k - 1).toNat + 1) (p, 0)
    rw [goL, if_pos rfl, hz, he]
theorem pw_done {o : Op3} {n k e : Int} {w p : Op3} (hn : ¬ n < -1000) (hn' : ¬ 1000 < n) (hI : pwInv o n w k e p) (hk : e ≠ 0 ∨ ¬ 0 < k) : (selO e p, (e, ())) = (powO o n, (powE o n, ())) := by
  obtain ⟨_, i2, i3⟩ := hI
  have : goL w k.toNat (p, e) = (p, e) := by
    rcases hk with hk | hk
    · exact goL_err hk _
    · rw [show k.toNat = 0 by omega]; rfl
  rw [this] at i3
  unfold powO powE powA
  rw [if_neg (by omega), ← i3]
theorem pw_far {o : Op3} {n : Int} (h : n < -1000 ∨ n > 1000) : (zerO, ((1 : Int), ())) = (powO o n, (powE o n, ())) := by
  unfold powO powE powA; rw [if_pos h]
theorem dp_pw {o : Op3} {n k : Int} {w p : Op3} (h : pwInv o n w k 0 p) : dpInv o n w k p := by
  obtain ⟨i1, i2, i3⟩ := h
  obtain ⟨j1, j2, j3, j4⟩ := i2 rfl
  exact ⟨i1, j1, j2, j3, j4, i3⟩
theorem pw_dp {o : Op3} {n k : Int} {w p : Op3} (h : dpInv o n w k p) : pwInv o n w k 0 p := by
  obtain ⟨i1, j1, j2, j3, j4, i3⟩ := h
  exact ⟨i1, fun _ => ⟨j1, j2, j3, j4⟩, i3⟩
/-! ### Orders -/
theorem so_next {o : Op3} {n k : Int} {t : V3} (hn : n ≤ 1000000) (hI : soInv o n k t) (hk : k < n) : soInv o n (w64 (k + 1)) (addT (shiT o.R t) o.T) ∧ ((decide (0 ≤ subMu n (w64 (k + 1)))) = true ∧ (decide (subMu n (w64 (k + 1)) < subMu n k)) = true) := by
  obtain ⟨i1, i2, i3⟩ := hI
  have w1 : w64 (k + 1) = k + 1 := w64_id (by omega) (by omega)
  rw [w1]
  refine ⟨⟨by omega, by omega, ?_⟩, decide_eq_true (by unfold subMu; omega), decide_eq_true (by unfold subMu; omega)⟩
  rw [i3, show (k + 1).toNat = k.toNat + 1 by omega]; rfl
theorem ls_next {t : V3} {n : Int} (hI : lsInv t n) (hz : zerV (timT n t) = false) : lsInv t (w64 (n + 1)) ∧ ((decide (0 ≤ subMu 24 (w64 (n + 1)))) = true ∧ (decide (subMu 24 (w64 (n + 1)) < subMu 24 n)) = true) := by
  obtain ⟨i1, i2, i3⟩ := hI
  have h24 : n ≠ 24 := fun e => by rw [e, tim24] at hz; exact absurd hz (by decide)
  have w1 : w64 (n + 1) = n + 1 := w64_id (by omega) (by omega)
  rw [w1]
  refine ⟨⟨by omega, by omega, ?_⟩, decide_eq_true (by unfold subMu; omega), decide_eq_true (by unfold subMu; omega)⟩
  rw [i3, show (25 - n).toNat = (25 - (n + 1)).toNat + 1 by omega, lstT, if_neg (by rw [hz]; decide)]
theorem ls_end {t : V3} {n : Int} (hI : lsInv t n) (hz : zerV (timT n t) = true) : lstT t 24 1 = n := by
  obtain ⟨i1, i2, i3⟩ := hI
  rw [i3, show (25 - n).toNat = (24 - n).toNat + 1 by omega, lstT, if_pos hz]
theorem ordZ_in (m : M3) : 0 ≤ ordZ m ∧ ordZ m ≤ 6 := by
  by_cases h : uniE m = 0
  · rw [(ord_vals h).1]
    by_cases hr : rordX m = 0
    · omega
    · obtain ⟨n, e, h1, h2, _⟩ := min_order hr
      omega
  · unfold ordZ ordR; rw [if_neg h]; show (0 : Int) ≤ 0 ∧ (0 : Int) ≤ 6; decide
/-! ### Gcds -/
theorem gc_next {a b p q : Int} (hI : gcInv a b p q) (hq : q ≠ 0) : gcInv a b q (Int.tmod p q) ∧ ((decide (0 ≤ pwMu (Int.tmod p q))) = true ∧ (decide (pwMu (Int.tmod p q) < pwMu q)) = true) := by
  obtain ⟨i1, i2, i3⟩ := hI
  have e : Int.tmod p q = p % q := Int.tmod_eq_emod_of_nonneg i1
  rw [e]
  have h1 : 0 ≤ p % q := Int.emod_nonneg _ hq
  have h2 : p % q < q := Int.emod_lt_of_pos _ (by omega)
  refine ⟨⟨i2, h1, ?_⟩, decide_eq_true h1, decide_eq_true h2⟩
  rw [← i3]
  obtain ⟨u, rfl⟩ := Int.eq_ofNat_of_zero_le i1
  obtain ⟨v, rfl⟩ := Int.eq_ofNat_of_zero_le i2
  rw [show ((u : Int) % (v : Int)) = ((u % v : Nat) : Int) from rfl]
  show Nat.gcd v (u % v) = Nat.gcd u v
  rw [Nat.gcd_comm v, ← Nat.gcd_rec, Nat.gcd_comm]
theorem gc_end {a b p q : Int} (hI : gcInv a b p q) (hq : q = 0) : (p, ()) = (gcdI a b, ()) := by
  obtain ⟨i1, i2, i3⟩ := hI
  subst hq
  unfold gcdI
  rw [← i3, Int.gcd_zero_right, Int.natAbs_of_nonneg i1]
end Go.Fx
