/-
  Plain facts on orders of operations.
-/
import Derived.Test.YthoicknhjjlnjaaGreatZ
set_option linter.unusedSimpArgs false
set_option linter.unusedVariables false
set_option linter.unusedSectionVars false
section
namespace Go.Fx
open Go

def negM (m : M3) : M3 := M3.mk (w64 (0 - m.xx)) (w64 (0 - m.xy)) (w64 (0 - m.xz)) (w64 (0 - m.yx)) (w64 (0 - m.yy)) (w64 (0 - m.yz)) (w64 (0 - m.zx)) (w64 (0 - m.zy)) (w64 (0 - m.zz))
def rotC (t : Int) (b c : Bool) : Int := if t = 3 then (if b = true then 1 else 0) else if t = -1 then (if c = true then 2 else 0) else if t = 0 then 3 else if t = 1 then 4 else if t = 2 then 6 else 0
def rotZ (m : M3) : Int := if w64 (trcZ m) = w64 (trcZ (wM (invZ m))) then rotC (w64 (trcZ m)) (eqM m (oneZ 1)) (eqM (wM (mulZ m m)) (oneZ 1)) else 0
def rkiZ (m : M3) : Int := if w64 (detZ m) = 1 then rotZ m else w64 (0 - rotZ (negM m))
def oofZ (k : Int) : Int := if 0 < k then k else if Int.tmod k 2 = 0 then w64 (0 - k) else w64 (-2 * k)
def gcdI (a b : Int) : Int := (Int.gcd a b : Int)
def nneg2 (a b : Int) : Prop := 0 ≤ a ∧ 0 ≤ b
def gcInv (a0 b0 a b : Int) : Prop := 0 ≤ a ∧ 0 ≤ b ∧ Int.gcd a b = Int.gcd a0 b0
def frmO (o : Op3) : Prop := errO o = 0
def appPre (o : Op3) (p : Pt) : Prop := errO o = 0 ∧ frmP p = true
def inTp (t : V3) : Prop := inT t = true
def mulPre (a b : Op3) : Prop := errM a.R = 0 ∧ errM b.R = 0 ∧ inT a.T = true ∧ inT b.T = true
def droR (o : Op3) : Int × Int :=
  if errO o = 0 then (if oofZ (rkiZ o.R) = 0 then (0, 9) else (w64 (oofZ (rkiZ o.R) * (24 / gcdI (gcdI (gcdI 24 (sumT o (oofZ (rkiZ o.R)).toNat).x) (sumT o (oofZ (rkiZ o.R)).toNat).y) (sumT o (oofZ (rkiZ o.R)).toNat).z)), 0)) else (0, errO o)
def droZ (o : Op3) : Int := (droR o).1
def droE (o : Op3) : Int := (droR o).2
def dkiE (o : Op3) : Int := if errO o = 0 then (if rkiZ o.R = 0 then 9 else 0) else errO o
def dkiZ (o : Op3) : Int := if errO o = 0 then rkiZ o.R else 0
def chInv (l : List Op3) (i w : Int) : Prop := 0 ≤ i ∧ i ≤ (l.length : Int) ∧ (∀ o ∈ l.take i.toNat, errO o ≠ 3) ∧ w = errL (l.take i.toNat)
def subMu (n k : Int) : Int := n - k
def opMu (l : List Op3) (k : Int) : Int := (l.length : Int) - k
end Go.Fx
end
section
namespace Go.Fx
open Go

theorem k24 : inM 24 := ⟨by decide, by decide⟩
theorem addT_zero (t : V3) : addT t (V3.mk 0 0 0) = modV 24 t := by
  unfold addT; rw [addV_zero]
theorem shf1 {M x t : Int} (h : M = 24 ∨ M = 48 ∨ M = 96 ∨ M = 192) (h1 : 0 ≤ x) (h2 : x < M) : w64 (x + Int.tmod t 24 * Int.tdiv M 24) % M = (x + M / 24 * t) % M := by
  have hr : (t.tmod 24).natAbs < (24 : Int).natAbs := by rw [Int.natAbs_tmod]; exact Nat.mod_lt _ (by decide)
  have e := tmod_emod t 24
  have q : Int.tdiv 24 24 = 1 ∧ Int.tdiv 48 24 = 2 ∧ Int.tdiv 96 24 = 4 ∧ Int.tdiv 192 24 = 8 := by decide
  have d : (24 : Int) / 24 = 1 ∧ (48 : Int) / 24 = 2 ∧ (96 : Int) / 24 = 4 ∧ (192 : Int) / 24 = 8 := by decide
  rcases h with rfl | rfl | rfl | rfl
  · rw [q.1, d.1, w64_id (by omega) (by omega)]; omega
  · rw [q.2.1, d.2.1, w64_id (by omega) (by omega)]; omega
  · rw [q.2.2.1, d.2.2.1, w64_id (by omega) (by omega)]; omega
  · rw [q.2.2.2, d.2.2.2, w64_id (by omega) (by omega)]; omega
theorem shf_ok {p : Pt} (h : frmP p = true) (t : V3) : plaP p.M (V3.mk (w64 (p.X.x + Int.tmod t.x 24 * Int.tdiv p.M 24)) (w64 (p.X.y + Int.tmod t.y 24 * Int.tdiv p.M 24)) (w64 (p.X.z + Int.tmod t.z 24 * Int.tdiv p.M 24))) = shfX p t ∧ plaE p.M = 0 := by
  have hr := frmP_rgt h
  obtain ⟨h1, ⟨a1, a2⟩, ⟨b1, b2⟩, c1, c2⟩ := frmP_iff.1 h
  refine ⟨?_, by unfold plaE; rw [if_pos hr]⟩
  unfold plaP; rw [if_pos hr]
  show Pt.mk p.M _ = Pt.mk p.M _
  congr 1
  simp only [modV, addV, scaV, V3.mk.injEq]
  exact ⟨shf1 h1 a1 a2, shf1 h1 b1 b2, shf1 h1 c1 c2⟩
/-! ### Errors of lists -/
theorem mem_at {l : List Op3} {i : Int} (h0 : 0 ≤ i) (h1 : i < (l.length : Int)) (d : Op3) : l.getD i.toNat d ∈ l ∧ l.take (i + 1).toNat = l.take i.toNat ++ [l.getD i.toNat d] := by
  have hl : i.toNat < l.length := by omega
  have e : l.getD i.toNat d = l[i.toNat] := by rw [List.getD_eq_getElem?_getD, List.getElem?_eq_getElem hl]; rfl
  rw [e]
  refine ⟨List.getElem_mem _, ?_⟩
  rw [show (i + 1).toNat = i.toNat + 1 by omega, List.take_succ_eq_append_getElem hl]
theorem ch_bad {l : List Op3} {i : Int} (h0 : 0 ≤ i) (h1 : i < (l.length : Int)) {d : Op3} (he : errO (l.getD i.toNat d) = 3) : (3, ()) = (errL l, ()) := by
  have hm := (mem_at h0 h1 d).1
  unfold errL
  rw [if_pos (List.any_eq_true.2 ⟨_, hm, by rw [he]; rfl⟩)]
theorem errL_snoc {l : List Op3} {o : Op3} (hl : ∀ o ∈ l, errO o ≠ 3) (ho : errO o ≠ 3) : errL (l ++ [o]) = if errO o = 4 then 4 else errL l := by
  have n3 : ∀ r : List Op3, (∀ o ∈ r, errO o ≠ 3) → (r.any fun o => decide (errO o = 3)) = false := fun r hr => by
    rw [Bool.eq_false_iff]; intro h
    obtain ⟨x, hx, e⟩ := List.any_eq_true.1 h
    exact hr x hx (of_decide_eq_true e)
  have a := n3 l hl
  have b := n3 (l ++ [o]) fun x hx => by
    rcases List.mem_append.1 hx with hx | hx
    · exact hl x hx
    · rw [List.mem_singleton.1 hx]; exact ho
  unfold errL
  rw [a, b]
  simp only [Bool.false_eq_true, if_false, List.any_append, List.any_cons, List.any_nil, Bool.or_false]
  by_cases h4 : errO o = 4
  · simp [h4]
  · simp [h4]
theorem ch_next {l : List Op3} {i w : Int} (hb : l.length * 96 ≤ 140737488355328) (hI : chInv l i w) (h1 : i < (l.length : Int)) {d : Op3} (h3 : errO (l.getD i.toNat d) ≠ 3) {w' : Int} (hw : w' = if errO (l.getD i.toNat d) = 4 then 4 else w) :
    chInv l (w64 (i + 1)) w' ∧ ((decide (0 ≤ opMu l (w64 (i + 1)))) = true ∧ (decide (opMu l (w64 (i + 1)) < opMu l i)) = true) := by
  obtain ⟨i0, i1, i2, i3⟩ := hI
  obtain ⟨hm, ht⟩ := mem_at i0 h1 d
  have e : w64 (i + 1) = i + 1 := w64_id (by omega) (by omega)
  rw [e]
  refine ⟨⟨by omega, by omega, ?_, ?_⟩, decide_eq_true (by unfold opMu; omega), decide_eq_true (by unfold opMu; omega)⟩
  · rw [ht]
    intro o ho
    rcases List.mem_append.1 ho with ho | ho
    · exact i2 o ho
    · rw [List.mem_singleton.1 ho]; exact h3
  · rw [ht, errL_snoc i2 h3, hw, i3]
theorem ch_end {l : List Op3} {i w : Int} (hI : chInv l i w) (h1 : ¬ i < (l.length : Int)) : (w, ()) = (errL l, ()) := by
  obtain ⟨i0, i1, i2, i3⟩ := hI
  rw [i3, List.take_of_length_le (by omega)]
/-! ### Products -/
theorem row24 {x y z a b c : Int} (ha : 0 ≤ a ∧ a ≤ 23) (hb : 0 ≤ b ∧ b ≤ 23) (hc : 0 ≤ c ∧ c ≤ 23) : r24 (w64 (r24 (w64 (r24 (0 + w64 (r24 x * a)) + w64 (r24 y * b))) + w64 (r24 z * c))) = (x * a + y * b + z * c) % 24 := by
  have m : ∀ u v : Int, (0 ≤ v ∧ v ≤ 23) → w64 (r24 u * v) = (u % 24) * v ∧ 0 ≤ (u % 24) * v ∧ (u % 24) * v ≤ 529 := fun u v hv => by
    rw [r24_eq]
    have h1 : 0 ≤ (u % 24) * v := Int.mul_nonneg (by omega) hv.1
    have h2 := mulB (a := u % 24) (b := v) 23 23 (by omega) (by omega) (by omega) hv.2
    exact ⟨w64_id (by omega) (by omega), h1, by omega⟩
  have md : ∀ u v : Int, ((u % 24) * v) % 24 = (u * v) % 24 := fun u v => by rw [Int.mul_emod, Int.emod_emod_of_dvd _ (Int.dvd_refl 24), ← Int.mul_emod]
  obtain ⟨p1, p2, p3⟩ := m x a ha
  obtain ⟨q1, q2, q3⟩ := m y b hb
  obtain ⟨s1, s2, s3⟩ := m z c hc
  have e1 := md x a
  have e2 := md y b
  have e3 := md z c
  rw [p1, q1, s1, r24_eq, r24_eq, r24_eq]
  generalize x % 24 * a = P at *
  generalize y % 24 * b = Q at *
  generalize z % 24 * c = S at *
  generalize x * a = P' at *
  generalize y * b = Q' at *
  generalize z * c = S' at *
  rw [w64_id (x := (0 + P) % 24 + Q) (by omega) (by omega), w64_id (x := ((0 + P) % 24 + Q) % 24 + S) (by omega) (by omega)]
  omega
theorem shi_ok (r : M3) {t : V3} (h : inT t = true) : V3.mk (r24 (w64 (r24 (w64 (r24 (0 + w64 (r24 r.xx * t.x)) + w64 (r24 r.xy * t.y))) + w64 (r24 r.xz * t.z)))) (r24 (w64 (r24 (w64 (r24 (0 + w64 (r24 r.yx * t.x)) + w64 (r24 r.yy * t.y))) + w64 (r24 r.yz * t.z)))) (r24 (w64 (r24 (w64 (r24 (0 + w64 (r24 r.zx * t.x)) + w64 (r24 r.zy * t.y))) + w64 (r24 r.zz * t.z)))) = shiT r t := by
  obtain ⟨a, b, c⟩ := inT_iff.1 h
  rw [row24 a b c, row24 a b c, row24 a b c]; rfl
theorem mul_T (a b : Op3) : addT (shiT a.R b.T) a.T = (mulO a b).T := by
  show eqV 24 (addV (modV 24 (appZ a.R b.T)) a.T) (addV (appZ a.R b.T) a.T)
  exact eqV_add (eqV_mod _ _) (eqV.refl _ _)
theorem mul_R {a b : Op3} (ha : errM a.R = 0) (hb : errM b.R = 0) : wM (mulZ a.R b.R) = mulZ a.R b.R := wM_id (by decide) (mulZ_B (okM_B (errM_ok.1 ha)) (okM_B (errM_ok.1 hb)))
theorem inT_B {t : V3} (h : inT t = true) : (-24 ≤ t.x ∧ t.x ≤ 24) ∧ (-24 ≤ t.y ∧ t.y ≤ 24) ∧ (-24 ≤ t.z ∧ t.z ≤ 24) := by
  rw [inT_iff] at h; omega
/-- All parts within k. -/
def BndV (k : Int) (v : V3) : Prop := (-k ≤ v.x ∧ v.x ≤ k) ∧ (-k ≤ v.y ∧ v.y ≤ k) ∧ (-k ≤ v.z ∧ v.z ≤ k)
theorem appB {k l : Int} {m : M3} {v : V3} (hm : Bnd k m) (hv : BndV l v) : BndV (3 * (k * l)) (appZ m v) :=
  ⟨dotB k l hm.xx hm.xy hm.xz hv.1 hv.2.1 hv.2.2, dotB k l hm.yx hm.yy hm.yz hv.1 hv.2.1 hv.2.2, dotB k l hm.zx hm.zy hm.zz hv.1 hv.2.1 hv.2.2⟩
theorem wV_id {k : Int} {v : V3} (hk : k ≤ 9223372036854775807) (h : BndV k v) : wV v = v := by
  obtain ⟨h1, h2, h3⟩ := h
  unfold wV
  rw [w64_id (by omega) (by omega), w64_id (by omega) (by omega), w64_id (by omega) (by omega)]
theorem addB {k l : Int} {a b : V3} (ha : BndV k a) (hb : BndV l b) : BndV (k + l) (addV a b) := by
  obtain ⟨h1, h2, h3⟩ := ha
  obtain ⟨h4, h5, h6⟩ := hb
  exact ⟨⟨by simp only [addV]; omega, by simp only [addV]; omega⟩, ⟨by simp only [addV]; omega, by simp only [addV]; omega⟩, ⟨by simp only [addV]; omega, by simp only [addV]; omega⟩⟩
theorem sml_pre {a b : Op3} (ha : sml a) (hb : sml b) : mulPre a b := ⟨ha.1, hb.1, ha.2, hb.2⟩
theorem frm_sml {o : Op3} (h : Frm o) : sml o := ⟨errM_B (by decide) h.B, h.T⟩
theorem one_sml : sml oneO := frm_sml oneO_frm
theorem errL_pre {a b : Op3} (h : errL [a, b] = 0) : mulPre a b := by
  obtain ⟨ha, hb⟩ := frm_errL h
  exact sml_pre (frm_sml ha) (frm_sml hb)
/-! ### Powers -/
theorem pw_init {o : Op3} {n : Int} (hn : -1000 ≤ n ∧ n ≤ 1000) : pwInv o n (powB o n) (if errO o = 0 ∧ n < 0 then -n else n) (powF o n) oneO := by
  refine ⟨rfl, fun h => ?_, ?_⟩
  · unfold powF at h
    split at h
    · rename_i h0
      by_cases hneg : n < 0
      · rw [if_pos hneg] at h
        rw [if_pos ⟨h0, hneg⟩]
        refine ⟨by omega, by omega, ?_, one_sml⟩
        unfold powB; rw [if_pos ⟨h0, hneg⟩]; unfold selO; rw [if_pos h]
        exact ⟨(invE_ok h).2, inT_mod _⟩
      · rw [if_neg fun h => hneg h.2]
        refine ⟨by omega, by omega, ?_, one_sml⟩
        unfold powB; rw [if_neg fun h => hneg h.2]
        exact frm_sml (errO_ok.1 h0)
    · exact absurd h (by assumption)
  · unfold powS
    by_cases h : errO o = 0 ∧ n < 0
    · rw [if_pos h, show (-n).toNat = n.natAbs by omega]
    · rw [if_neg h]
      by_cases h0 : errO o = 0
      · have : ¬ n < 0 := fun h' => h ⟨h0, h'⟩
        rw [show n.toNat = n.natAbs by omega]
      · have : powF o n ≠ 0 := by unfold powF; rw [if_neg h0]; exact h0
        rw [goL_err this, goL_err this]
theorem pw_next {o : Op3} {n k : Int} {w p z : Op3} {e : Int} (hI : pwInv o n w k 0 p) (hk : 0 < k) (hz : z = selO (errM (mulO w p).R) (mulO w p)) (he : e = errM (mulO w p).R) :
    pwInv o n w (w64 (k - 1)) e z ∧ ((decide (0 ≤ pwMu (w64 (k - 1)))) = true ∧ (decide (pwMu (w64 (k - 1)) < pwMu k)) = true) := by
  obtain ⟨i1, i2, i3⟩ := hI
  obtain ⟨j1, j2, j3, j4⟩ := i2 rfl
  have w1 : w64 (k - 1) = k - 1 := w64_id (by omega) (by omega)
  rw [w1]
  refine ⟨⟨i1, fun h => ⟨by omega, by omega, j3, ?_⟩, ?_⟩, decide_eq_true (by unfold pwMu; omega), decide_eq_true (by unfold pwMu; omega)⟩
  · rw [he] at h
    rw [hz]; unfold selO; rw [if_pos h]
    exact ⟨h, inT_mod _⟩
  · rw [← i3, show k.toNat = (k - 1).toNat + 1 by omega]
    show goL w (k - 1).toNat (z, e) = goL w ((k - 1).toNat + 1) (p, 0)
    rw [goL, if_pos rfl, hz, he]
theorem pw_done {o : Op3} {n k e : Int} {w p : Op3} (hn : ¬ n < -1000) (hn' : ¬ 1000 < n) (hI : pwInv o n w k e p) (hk : e ≠ 0 ∨ ¬ 0 < k) : (selO e p, (e, ())) = (powO o n, (powE o n, ())) := by
  obtain ⟨_, i2, i3⟩ := hI
  have : goL w k.toNat (p, e) = (p, e) := by
    rcases hk with hk | hk
    · exact goL_err hk _
    · rw [show k.toNat = 0 by omega]; rfl
  rw [this] at i3
  unfold powO powE powA
  rw [if_neg (by omega), ← i3]
theorem pw_far {o : Op3} {n : Int} (h : n < -1000 ∨ n > 1000) : (zerO, ((1 : Int), ())) = (powO o n, (powE o n, ())) := by
  unfold powO powE powA; rw [if_pos h]
theorem dp_pw {o : Op3} {n k : Int} {w p : Op3} (h : pwInv o n w k 0 p) : dpInv o n w k p := by
  obtain ⟨i1, i2, i3⟩ := h
  obtain ⟨j1, j2, j3, j4⟩ := i2 rfl
  exact ⟨i1, j1, j2, j3, j4, i3⟩
theorem pw_dp {o : Op3} {n k : Int} {w p : Op3} (h : dpInv o n w k p) : pwInv o n w k 0 p := by
  obtain ⟨i1, j1, j2, j3, j4, i3⟩ := h
  exact ⟨i1, fun _ => ⟨j1, j2, j3, j4⟩, i3⟩
/-! ### Orders -/
theorem so_next {o : Op3} {n k : Int} {t : V3} (hn : n ≤ 1000000) (hI : soInv o n k t) (hk : k < n) : soInv o n (w64 (k + 1)) (addT (shiT o.R t) o.T) ∧ ((decide (0 ≤ subMu n (w64 (k + 1)))) = true ∧ (decide (subMu n (w64 (k + 1)) < subMu n k)) = true) := by
  obtain ⟨i1, i2, i3⟩ := hI
  have w1 : w64 (k + 1) = k + 1 := w64_id (by omega) (by omega)
  rw [w1]
  refine ⟨⟨by omega, by omega, ?_⟩, decide_eq_true (by unfold subMu; omega), decide_eq_true (by unfold subMu; omega)⟩
  rw [i3, show (k + 1).toNat = k.toNat + 1 by omega]; rfl
theorem ls_next {t : V3} {n : Int} (hI : lsInv t n) (hz : zerV (timT n t) = false) : lsInv t (w64 (n + 1)) ∧ ((decide (0 ≤ subMu 24 (w64 (n + 1)))) = true ∧ (decide (subMu 24 (w64 (n + 1)) < subMu 24 n)) = true) := by
  obtain ⟨i1, i2, i3⟩ := hI
  have h24 : n ≠ 24 := fun e => by rw [e, tim24] at hz; exact absurd hz (by decide)
  have w1 : w64 (n + 1) = n + 1 := w64_id (by omega) (by omega)
  rw [w1]
  refine ⟨⟨by omega, by omega, ?_⟩, decide_eq_true (by unfold subMu; omega), decide_eq_true (by unfold subMu; omega)⟩
  rw [i3, show (25 - n).toNat = (25 - (n + 1)).toNat + 1 by omega, lstT, if_neg (by rw [hz]; decide)]
theorem ls_end {t : V3} {n : Int} (hI : lsInv t n) (hz : zerV (timT n t) = true) : lstT t 24 1 = n := by
  obtain ⟨i1, i2, i3⟩ := hI
  rw [i3, show (25 - n).toNat = (24 - n).toNat + 1 by omega, lstT, if_pos hz]
theorem ordZ_in (m : M3) : 0 ≤ ordZ m ∧ ordZ m ≤ 6 := by
  by_cases h : uniE m = 0
  · rw [(ord_vals h).1]
    by_cases hr : rordX m = 0
    · omega
    · obtain ⟨n, e, h1, h2, _⟩ := min_order hr
      omega
  · unfold ordZ ordR; rw [if_neg h]; show (0 : Int) ≤ 0 ∧ (0 : Int) ≤ 6; decide
/-! ### Gcds -/
theorem gc_next {a b p q : Int} (hI : gcInv a b p q) (hq : q ≠ 0) : gcInv a b q (Int.tmod p q) ∧ ((decide (0 ≤ pwMu (Int.tmod p q))) = true ∧ (decide (pwMu (Int.tmod p q) < pwMu q)) = true) := by
  obtain ⟨i1, i2, i3⟩ := hI
  have e : Int.tmod p q = p % q := Int.tmod_eq_emod_of_nonneg i1
  rw [e]
  have h1 : 0 ≤ p % q := Int.emod_nonneg _ hq
  have h2 : p % q < q := Int.emod_lt_of_pos _ (by omega)
  refine ⟨⟨i2, h1, ?_⟩, decide_eq_true h1, decide_eq_true h2⟩
  rw [← i3]
  obtain ⟨u, rfl⟩ := Int.eq_ofNat_of_zero_le i1
  obtain ⟨v, rfl⟩ := Int.eq_ofNat_of_zero_le i2
  rw [show ((u : Int) % (v : Int)) = ((u % v : Nat) : Int) from rfl]
  show Nat.gcd v (u % v) = Nat.gcd u v
  rw [Nat.gcd_comm v, ← Nat.gcd_rec, Nat.gcd_comm]
theorem gc_end {a b p q : Int} (hI : gcInv a b p q) (hq : q = 0) : (p, ()) = (gcdI a b, ()) := by
  obtain ⟨i1, i2, i3⟩ := hI
  subst hq
  unfold gcdI
  rw [← i3, Int.gcd_zero_right, Int.natAbs_of_nonneg i1]
end Go.Fx
end
section
namespace Go.Fx
open Go

def Op3.row (o : Op3) : List Int := [o.R.xx, o.R.xy, o.R.xz, o.R.yx, o.R.yy, o.R.yz, o.R.zx, o.R.zy, o.R.zz, o.T.x, o.T.y, o.T.z]
theorem cmpE_key (x y k : Int) : cmpE x y k = if cmpE x y 0 = 0 then k else cmpE x y 0 := by
  unfold cmpE; by_cases h : x < y <;> by_cases h' : y < x <;> simp [h, h']
theorem lexL_app : ∀ {a b c d : List Int}, a.length = b.length → lexL (a ++ c) (b ++ d) = if lexL a b = 0 then lexL c d else lexL a b
  | [], [], _, _, _ => rfl
  | x :: r, y :: s, c, d, h => by
    have ih := lexL_app (a := r) (b := s) (c := c) (d := d) (by simpa using h)
    simp only [List.cons_append, lexL]
    rw [ih]
    unfold cmpE
    by_cases h1 : x < y
    · simp [h1]
    · by_cases h2 : y < x
      · simp [h1, h2]
      · simp [h1, h2]
theorem cmpO_lex (a b : Op3) : cmpO a b = lexL a.row b.row := by
  have := lexL_app (a := a.R.row) (b := b.R.row) (c := [a.T.x, a.T.y, a.T.z]) (d := [b.T.x, b.T.y, b.T.z]) rfl
  exact this.symm
theorem opRow_inj {a b : Op3} (h : a.row = b.row) : a = b := by
  obtain ⟨⟨a1, a2, a3, a4, a5, a6, a7, a8, a9⟩, ⟨a10, a11, a12⟩⟩ := a
  obtain ⟨⟨b1, b2, b3, b4, b5, b6, b7, b8, b9⟩, ⟨b10, b11, b12⟩⟩ := b
  simp only [Op3.row, List.cons.injEq, and_true] at h
  obtain ⟨rfl, rfl, rfl, rfl, rfl, rfl, rfl, rfl, rfl, rfl, rfl, rfl⟩ := h
  rfl
theorem cmpO_zero {a b : Op3} : cmpO a b = 0 ↔ a = b := by
  rw [cmpO_lex, lexL_zero (a := a.row) (b := b.row) rfl]
  exact ⟨opRow_inj, fun h => by rw [h]⟩
theorem cmpO_anti (a b : Op3) : cmpO b a = -cmpO a b := by rw [cmpO_lex, cmpO_lex]; exact lexL_anti _ _
theorem cmpO_range (a b : Op3) : cmpO a b = -1 ∨ cmpO a b = 0 ∨ cmpO a b = 1 := by rw [cmpO_lex]; exact lexL_range _ _
theorem cmpO_trans (a b c : Op3) : (cmpO a b ≤ 0 → cmpO b c ≤ 0 → cmpO a c ≤ 0) ∧ (cmpO a b < 0 → cmpO b c ≤ 0 → cmpO a c < 0) ∧ (cmpO a b ≤ 0 → cmpO b c < 0 → cmpO a c < 0) := by
  rw [cmpO_lex, cmpO_lex, cmpO_lex]; exact lexL_trans (a := a.row) (b := b.row) (c := c.row) rfl rfl

/-! ### Sums of turned translations -/
theorem atT_in {o : Op3} (h : inT o.T = true) : ∀ k, inT (atT o k) = true
  | 0 => h
  | _ + 1 => inT_mod _
theorem sum_at (o : Op3) : ∀ k, sumT o (k + 1) = modV 24 (addV (sumT o k) (atT o k))
  | 0 => by
    show modV 24 (addV (modV 24 (appZ o.R (V3.mk 0 0 0))) o.T) = modV 24 (addV (V3.mk 0 0 0) o.T)
    rw [app_zero]; rfl
  | k + 1 => by
    show eqV 24 (addV (modV 24 (appZ o.R (sumT o (k + 1)))) o.T) (addV (sumT o (k + 1)) (atT o (k + 1)))
    have ih := sum_at o k
    have e1 : eqV 24 (appZ o.R (sumT o (k + 1))) (addV (appZ o.R (sumT o k)) (appZ o.R (atT o k))) := by
      rw [ih, ← app_add]
      exact eqV_app _ (eqV_mod _ _)
    have e2 : eqV 24 (sumT o (k + 1)) (addV (appZ o.R (sumT o k)) o.T) := by
      show eqV 24 (modV 24 (addV (modV 24 (appZ o.R (sumT o k))) o.T)) _
      exact (eqV_mod _ _).trans (eqV_add (eqV_mod _ _) (eqV.refl _ _))
    refine (eqV_add (eqV_mod _ _) (eqV.refl _ _)).trans ?_
    refine (eqV_add e1 (eqV.refl _ _)).trans ?_
    refine eqV.trans ?_ (eqV_add e2 (eqV_mod 24 (appZ o.R (atT o k)))).symm
    rw [addV_assoc, addV_assoc, addV_comm o.T]
    exact eqV.refl _ _
theorem bv24 {t : V3} (h : inT t = true) : BndV 24 t := inT_B h
theorem do_next {o : Op3} (hF : Frm o) {n k : Int} (hn : n ≤ 1000000) {s t : V3} (hI : doInv o n k s t) (hk : k < n) {z y : V3} (hz : z = modV 24 (wV (addV s t))) (hy : y = modV 24 (wV (appZ o.R t))) :
    doInv o n (w64 (k + 1)) z y ∧ ((decide (0 ≤ subMu n (w64 (k + 1)))) = true ∧ (decide (subMu n (w64 (k + 1)) < subMu n k)) = true) := by
  obtain ⟨i1, i2, i3, i4⟩ := hI
  have w1 : w64 (k + 1) = k + 1 := w64_id (by omega) (by omega)
  have hs : inT s = true := by rw [i3]; exact sumT_in o _
  have ht : inT t = true := by rw [i4]; exact atT_in hF.T _
  rw [w1]
  refine ⟨⟨by omega, by omega, ?_, ?_⟩, decide_eq_true (by unfold subMu; omega), decide_eq_true (by unfold subMu; omega)⟩
  · rw [hz, wV_id (by decide) (addB (bv24 hs) (bv24 ht)), show (k + 1).toNat = k.toNat + 1 by omega, sum_at, i3, i4]
  · rw [hy, wV_id (by decide) (appB hF.B (bv24 ht)), show (k + 1).toNat = k.toNat + 1 by omega, i4]; rfl

/-! ### Kinds -/
theorem rotC_rord {m : M3} (hd : detZ m = 1) : (if trcZ m = sZ m then rotC (trcZ m) (eqM m (oneZ 1)) (eqM (mulZ m m) (oneZ 1)) else 0) = rordX m := by
  unfold rordX
  by_cases h1 : m = oneZ 1
  · rw [if_pos (eqM_iff.2 h1), eqM_iff.2 h1]
    have a : trcZ m = 3 := by rw [h1]; decide
    have b : sZ m = 3 := by rw [h1]; decide
    rw [a, b]; rfl
  have x1 : eqM m (oneZ 1) = false := by rw [Bool.eq_false_iff]; exact fun e => h1 (eqM_iff.1 e)
  rw [x1]
  by_cases h2 : mulZ m m = oneZ 1
  · rw [if_neg (show ¬ (false = true) by decide), eqM_iff.2 h2]
    have ht : trcZ m = -1 := by
      rcases scalar_case h2 h1 (.inl hd) with h | ⟨h, _⟩
      · rw [hd] at h; omega
      · rw [hd] at h; exact absurd h (by decide)
    have hs : sZ m = -1 := by
      have := trc_lin 1 0 0 m
      have e : linZ 1 0 0 m = mulZ m m := by cases e : mulZ m m; simp [linZ, e]
      rw [e, h2, ht] at this
      have e3 : trcZ (oneZ 1) = 3 := by decide
      omega
    rw [ht, hs]; rfl
  have x2 : eqM (mulZ m m) (oneZ 1) = false := by rw [Bool.eq_false_iff]; exact fun e => h2 (eqM_iff.1 e)
  rw [x2, if_neg (show ¬ (false = true) by decide), if_neg (show ¬ (false = true) by decide)]
  unfold rotC rordC
  rw [hd]
  by_cases hts : trcZ m = sZ m
  · rw [if_pos hts, ← hts]
    generalize trcZ m = t
    by_cases a3 : t = 3
    · subst a3; decide
    by_cases am : t = -1
    · subst am; decide
    by_cases a0 : t = 0
    · subst a0; decide
    by_cases a1 : t = 1
    · subst a1; decide
    by_cases a2 : t = 2
    · subst a2; decide
    simp [a3, am, a0, a1, a2]
  · rw [if_neg hts]
    generalize trcZ m = t at hts ⊢
    generalize sZ m = s at hts ⊢
    rw [if_neg (by omega), if_neg (by omega), if_neg (by omega)]
theorem inv_s {m : M3} (hd : detZ m = 1) : trcZ (invZ m) = sZ m := by
  unfold invZ sZ; rw [hd]; simp [trcZ, scaZ]
theorem rotZ_eq {m : M3} (hB : Bnd 1000 m) (hd : detZ m = 1) : rotZ m = rordX m := by
  have h1 := wM_id (by decide) (mulZ_B hB hB)
  have h2 := wM_id (by decide) (invZ_B hB (.inl hd))
  have h3 := trcZ_B hB
  have h4 := trcZ_B (invZ_B hB (.inl hd))
  rw [← rotC_rord hd]
  unfold rotZ
  rw [h1, h2, w64_id (x := trcZ m) (by omega) (by omega), w64_id (x := trcZ (invZ m)) (by omega) (by omega), inv_s hd]
theorem negM_eq {m : M3} (hB : Bnd 1000 m) : negM m = scaZ (-1) m := by
  obtain ⟨h1, h2, h3, h4, h5, h6, h7, h8, h9⟩ := hB
  unfold negM scaZ
  rw [w64_id (by omega) (by omega), w64_id (by omega) (by omega), w64_id (by omega) (by omega), w64_id (by omega) (by omega), w64_id (by omega) (by omega), w64_id (by omega) (by omega), w64_id (by omega) (by omega), w64_id (by omega) (by omega), w64_id (by omega) (by omega)]
  simp only [M3.mk.injEq]; omega
theorem sca1 (m : M3) : scaZ 1 m = m := by cases m; simp [scaZ]
theorem neg_tsd (m : M3) : trcZ (scaZ (-1) m) = -trcZ m ∧ sZ (scaZ (-1) m) = sZ m ∧ detZ (scaZ (-1) m) = -detZ m ∧ mulZ (scaZ (-1) m) (scaZ (-1) m) = mulZ m m := by
  refine ⟨?_, ?_, ?_, ?_⟩
  · simp only [trcZ, scaZ]; omega
  · simp only [sZ, trcZ, adjZ, scaZ]; grind
  · simp only [detZ, scaZ]; grind
  · simp only [mulZ, scaZ, M3.mk.injEq]; refine ⟨?_, ?_, ?_, ?_, ?_, ?_, ?_, ?_, ?_⟩ <;> grind
theorem rordX_vals (m : M3) : rordX m = 0 ∨ rordX m = 1 ∨ rordX m = 2 ∨ rordX m = 3 ∨ rordX m = 4 ∨ rordX m = 6 := by
  by_cases h : rordX m = 0
  · exact .inl h
  · obtain ⟨n, e, h1, h2, h3, _⟩ := min_order h
    omega
theorem rkiZ_eq {m : M3} (hB : Bnd 1000 m) (hd : detZ m = 1 ∨ detZ m = -1) : rkiZ m = detZ m * rordX (scaZ (detZ m) m) := by
  have hdB := detZ_B hB
  unfold rkiZ
  rw [w64_id (x := detZ m) (by omega) (by omega)]
  rcases hd with hd | hd
  · rw [if_pos hd, rotZ_eq hB hd, hd, sca1, Int.one_mul]
  · have hB' : Bnd 1000 (scaZ (-1) m) := sca_B hB (.inr rfl)
    have hd' : detZ (scaZ (-1) m) = 1 := by rw [(neg_tsd m).2.2.1, hd]; rfl
    rw [if_neg (by rw [hd]; decide), negM_eq hB, rotZ_eq hB' hd', hd]
    have := rordX_vals (scaZ (-1) m)
    rw [w64_id (by omega) (by omega)]; omega
/-- A matrix's order, by its kind. -/
theorem oof_kind {m : M3} (hB : Bnd 1000 m) (hd : detZ m = 1 ∨ detZ m = -1) : oofZ (rkiZ m) = rordX m := by
  rw [rkiZ_eq hB hd]
  rcases hd with hd | hd
  · rw [hd, sca1, Int.one_mul]
    rcases rordX_vals m with h | h | h | h | h | h <;> rw [h] <;> decide
  · rw [hd]
    obtain ⟨n1, n2, n3, n4⟩ := neg_tsd m
    have hd' : detZ (scaZ (-1) m) = 1 := by rw [n3, hd]; rfl
    by_cases h2 : mulZ m m = oneZ 1
    · have h2' : mulZ (scaZ (-1) m) (scaZ (-1) m) = oneZ 1 := by rw [n4]; exact h2
      have hne : m ≠ oneZ 1 := fun e => by rw [e] at hd; exact absurd hd (by decide)
      have e2 : rordX m = 2 := by
        unfold rordX; rw [if_neg fun e => hne (eqM_iff.1 e), if_pos (eqM_iff.2 h2)]
      rw [e2]
      by_cases h1 : scaZ (-1) m = oneZ 1
      · have : rordX (scaZ (-1) m) = 1 := by unfold rordX; rw [if_pos (eqM_iff.2 h1)]
        rw [this]; decide
      · have : rordX (scaZ (-1) m) = 2 := by unfold rordX; rw [if_neg fun e => h1 (eqM_iff.1 e), if_pos (eqM_iff.2 h2')]
        rw [this]; decide
    · have hne : m ≠ oneZ 1 := fun e => by rw [e] at hd; exact absurd hd (by decide)
      have e1 : rordX m = rordC (trcZ m) (sZ m) (-1) := by
        unfold rordX; rw [if_neg fun e => hne (eqM_iff.1 e), if_neg fun e => h2 (eqM_iff.1 e), hd]
      have h2' : mulZ (scaZ (-1) m) (scaZ (-1) m) ≠ oneZ 1 := by rw [n4]; exact h2
      have h1' : scaZ (-1) m ≠ oneZ 1 := fun e => h2' (by rw [e]; exact (mulZ_one _).1)
      have e3 : rordX (scaZ (-1) m) = rordC (-trcZ m) (sZ m) 1 := by
        unfold rordX; rw [if_neg fun e => h1' (eqM_iff.1 e), if_neg fun e => h2' (eqM_iff.1 e), hd', n1, n2]
      rw [e1, e3]
      generalize trcZ m = t
      generalize sZ m = s
      unfold rordC
      by_cases c0 : t = 0 ∧ s = 0
      · obtain ⟨rfl, rfl⟩ := c0; decide
      by_cases c1 : t = -1 ∧ s = 1
      · obtain ⟨rfl, rfl⟩ := c1; decide
      by_cases c2 : t = -2 ∧ s = 2
      · obtain ⟨rfl, rfl⟩ := c2; decide
      rw [if_neg (by omega), if_neg (by omega), if_neg (by omega), if_neg (by omega), if_neg (by omega), if_neg (by omega)]
      decide
/-! ### Translations' orders -/
def gcdChk : Bool := (List.range 24).all fun x => (List.range 24).all fun y => (List.range 24).all fun z => decide (lstT (V3.mk x y z) 24 1 = 24 / ((Nat.gcd (Nat.gcd (Nat.gcd 24 x) y) z : Nat) : Int))
theorem gcd_chk : gcdChk = true := by decide +kernel
theorem lst_gcd {t : V3} (h : inT t = true) : lstT t 24 1 = 24 / gcdI (gcdI (gcdI 24 t.x) t.y) t.z := by
  obtain ⟨⟨a1, a2⟩, ⟨b1, b2⟩, c1, c2⟩ := inT_iff.1 h
  obtain ⟨x, y, z⟩ := t
  simp only at a1 a2 b1 b2 c1 c2
  obtain ⟨x, rfl⟩ := Int.eq_ofNat_of_zero_le a1
  obtain ⟨y, rfl⟩ := Int.eq_ofNat_of_zero_le b1
  obtain ⟨z, rfl⟩ := Int.eq_ofNat_of_zero_le c1
  have h := gcd_chk
  unfold gcdChk at h
  rw [List.all_eq_true] at h
  have h := h x (List.mem_range.2 (by omega))
  rw [List.all_eq_true] at h
  have h := h y (List.mem_range.2 (by omega))
  rw [List.all_eq_true] at h
  have h := of_decide_eq_true (h z (List.mem_range.2 (by omega)))
  exact h
theorem gcd24_pos (x y z : Int) : 1 ≤ gcdI (gcdI (gcdI 24 x) y) z ∧ gcdI (gcdI (gcdI 24 x) y) z ≤ 24 := by
  have h1 : gcdI (gcdI (gcdI 24 x) y) z ∣ 24 := by
    unfold gcdI
    exact Int.dvd_trans (Int.gcd_dvd_left _ _) (Int.dvd_trans (Int.gcd_dvd_left _ _) (Int.gcd_dvd_left _ _))
  have h2 : 0 ≤ gcdI (gcdI (gcdI 24 x) y) z := Int.natCast_nonneg _
  obtain ⟨k, hk⟩ := h1
  generalize gcdI (gcdI (gcdI 24 x) y) z = g at *
  have : g ≠ 0 := fun e => by rw [e] at hk; omega
  have hk1 : 1 ≤ k := by
    by_cases hk0 : 1 ≤ k
    · exact hk0
    · have := Int.mul_nonneg h2 (show 0 ≤ -k by omega)
      rw [Int.mul_neg] at this; omega
  refine ⟨by omega, ?_⟩
  have := Int.mul_le_mul_of_nonneg_left hk1 h2
  omega
theorem dro_oro (o : Op3) : droZ o = oroZ o ∧ droE o = oroE o := by
  unfold droZ droE droR
  by_cases h : errO o = 0
  · have hF := errO_ok.1 h
    have hu : uniE o.R = 0 := uniE_of hF.B hF.d
    obtain ⟨v1, v2⟩ := ord_vals hu
    have ho := oof_kind hF.B hF.d
    rw [if_pos h, ho]
    by_cases hr : rordX o.R = 0
    · rw [if_pos hr]
      have he : oroE o = 9 := by rw [oroE_frm hF, v2, if_pos hr]
      refine ⟨?_, he.symm⟩
      unfold oroZ; rw [he]; rfl
    · rw [if_neg hr]
      have he : oroE o = 0 := by rw [oroE_frm hF, v2, if_neg hr]
      refine ⟨?_, he.symm⟩
      unfold oroZ
      rw [if_pos he, v1]
      have hs := sumT_in o (rordX o.R).toNat
      have hl := lst_ok (sumT o (rordX o.R).toNat)
      rw [← lst_gcd hs]
      have h6 := rordX_vals o.R
      have hB := mulB (a := rordX o.R) (b := lstT (sumT o (rordX o.R).toNat) 24 1) 6 24 (by omega) (by omega) (by omega) (by omega)
      exact w64_id (by omega) (by omega)
  · rw [if_neg h]
    have he : oroE o = errO o := by unfold oroE; rw [if_neg h]
    refine ⟨?_, he.symm⟩
    unfold oroZ; rw [he, if_neg h]
theorem dki_kin (o : Op3) : dkiZ o = kinZ o ∧ dkiE o = kinE o := by
  unfold dkiZ dkiE kinZ
  by_cases h : errO o = 0
  · have hF := errO_ok.1 h
    have hB' : Bnd 1000 (scaZ (detZ o.R) o.R) := sca_B hF.B hF.d
    have hd' : detZ (scaZ (detZ o.R) o.R) = 1 := by
      rcases hF.d with e | e
      · rw [e, sca1, e]
      · rw [e, (neg_tsd o.R).2.2.1, e]; rfl
    have hu : uniE (scaZ (detZ o.R) o.R) = 0 := uniE_of hB' (.inl hd')
    obtain ⟨v1, v2⟩ := ord_vals hu
    have hk := rkiZ_eq hF.B hF.d
    have he : kinE o = if rordX (scaZ (detZ o.R) o.R) = 0 then 9 else 0 := by unfold kinE; rw [if_pos h, v2]
    rw [if_pos h, if_pos h, he, hk, v1]
    by_cases hr : rordX (scaZ (detZ o.R) o.R) = 0
    · rw [hr, Int.mul_zero]; exact ⟨rfl, rfl⟩
    · rw [if_neg hr, if_pos rfl]
      refine ⟨rfl, ?_⟩
      rw [if_neg]
      intro e
      rcases Int.mul_eq_zero.1 e with e | e
      · rcases hF.d with e' | e' <;> rw [e'] at e <;> exact absurd e (by decide)
      · exact hr e
  · have he : kinE o = errO o := by unfold kinE; rw [if_neg h]
    rw [if_neg h, if_neg h, he, if_neg h]; exact ⟨rfl, rfl⟩
end Go.Fx
end
