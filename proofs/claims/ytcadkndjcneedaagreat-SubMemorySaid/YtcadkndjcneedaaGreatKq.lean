/-
  Plain facts on orders of operations.
-/
import Derived.Test.YtcadkndjcneedaaGreatZ
set_option linter.unusedSimpArgs false
set_option linter.unusedVariables false
set_option linter.unusedSectionVars false
section
namespace Go.Fx
open Go

def negM (m : M3) : M3 := M3.mk (w64 (0 - m.xx)) (w64 (0 - m.xy)) (w64 (0 - m.xz)) (w64 (0 - m.yx)) (w64 (0 - m.yy)) (w64 (0 - m.yz)) (w64 (0 - m.zx)) (w64 (0 - m.zy)) (w64 (0 - m.zz))
def rotC (t : Int) (b c : Bool) : Int := if t = 3 then (if b = true then 1 else 0) else if t = -1 then (if c = true then 2 else 0) else if t = 0 then 3 else if t = 1 then 4 else if t = 2 then 6 else 0
def rotZ (m : M3) : Int := if w64 (trcZ m) = w64 (trcZ (wM (invZ m))) then rotC (w64 (trcZ m)) (eqM m (oneZ 1)) (eqM (wM (mulZ m m)) (oneZ 1)) else 0
def rkiZ (m : M3) : Int := if w64 (detZ m) = 1 then rotZ m else w64 (0 - rotZ (negM m))
def oofZ (k : Int) : Int := if 0 < k then k else if Int.tmod k 2 = 0 then w64 (0 - k) else w64 (-2 * k)
def gcdI (a b : Int) : Int := (Int.gcd a b : Int)
def nneg2 (a b : Int) : Prop := 0 ≤ a ∧ 0 ≤ b
def gcInv (a0 b0 a b : Int) : Prop := 0 ≤ a ∧ 0 ≤ b ∧ Int.gcd a b = Int.gcd a0 b0
def frmO (o : Op3) : Prop := errO o = 0
def appPre (o : Op3) (p : Pt) : Prop := errO o = 0 ∧ frmP p = true
def inTp (t : V3) : Prop := inT t = true
def mulPre (a b : Op3) : Prop := errM a.R = 0 ∧ errM b.R = 0 ∧ inT a.T = true ∧ inT b.T = true
def droR (o : Op3) : Int × Int :=
  if errO o = 0 then (if oofZ (rkiZ o.R) = 0 then (0, 9) else (w64 (oofZ (rkiZ o.R) * (24 / gcdI (gcdI (gcdI 24 (sumT o (oofZ (rkiZ o.R)).toNat).x) (sumT o (oofZ (rkiZ o.R)).toNat).y) (sumT o (oofZ (rkiZ o.R)).toNat).z)), 0)) else (0, errO o)
def droZ (o : Op3) : Int := (droR o).1
def droE (o : Op3) : Int := (droR o).2
def dkiE (o : Op3) : Int := if errO o = 0 then (if rkiZ o.R = 0 then 9 else 0) else errO o
def dkiZ (o : Op3) : Int := if errO o = 0 then rkiZ o.R else 0
def chInv (l : List Op3) (i w : Int) : Prop := 0 ≤ i ∧ i ≤ (l.length : Int) ∧ (∀ o ∈ l.take i.toNat, errO o ≠ 3) ∧ w = errL (l.take i.toNat)
def subMu (n k : Int) : Int := n - k
def opMu (l : List Op3) (k : Int) : Int := (l.length : Int) - k
end Go.Fx
end
section
namespace Go.Fx
open Go

theorem k24 : inM 24 := ⟨by decide, by decide⟩
/-! ### Errors of lists -/
theorem mem_at {l : List Op3} {i : Int} (h0 : 0 ≤ i) (h1 : i < (l.length : Int)) (d : Op3) : l.getD i.toNat d ∈ l ∧ l.take (i + 1).toNat = l.take i.toNat ++ [l.getD i.toNat d] := by
  have hl : i.toNat < l.length := by omega
  have e : l.getD i.toNat d = l[i.toNat] := by rw [List.getD_eq_getElem?_getD, List.getElem?_eq_getElem hl]; rfl
  rw [e]
  refine ⟨List.getElem_mem _, ?_⟩
  rw [show (i + 1).toNat = i.toNat + 1 by omega, List.take_succ_eq_append_getElem hl]
theorem ch_bad {l : List Op3} {i : Int} (h0 : 0 ≤ i) (h1 : i < (l.length : Int)) {d : Op3} (he : errO (l.getD i.toNat d) = 3) : (3, ()) = (errL l, ()) := by
  have hm := (mem_at h0 h1 d).1
  unfold errL
  rw [if_pos (List.any_eq_true.2 ⟨_, hm, by rw [he]; rfl⟩)]
theorem errL_snoc {l : List Op3} {o : Op3} (hl : ∀ o ∈ l, errO o ≠ 3) (ho : errO o ≠ 3) : errL (l ++ [o]) = if errO o = 4 then 4 else errL l := by
  have n3 : ∀ r : List Op3, (∀ o ∈ r, errO o ≠ 3) → (r.any fun o => decide (errO o = 3)) = false := fun r hr => by
    rw [Bool.eq_false_iff]; intro h
    obtain ⟨x, hx, e⟩ := List.any_eq_true.1 h
    exact hr x hx (of_decide_eq_true e)
  have a := n3 l hl
  have b := n3 (l ++ [o]) fun x hx => by
    rcases List.mem_append.1 hx with hx | hx
    · exact hl x hx
    · rw [List.mem_singleton.1 hx]; exact ho
  unfold errL
  rw [a, b]
  simp only [Bool.false_eq_true, if_false, List.any_append, List.any_cons, List.any_nil, Bool.or_false]
  by_cases h4 : errO o = 4
  · simp [h4]
  · simp [h4]
theorem ch_next {l : List Op3} {i w : Int} (hb : l.length * 96 ≤ 140737488355328) (hI : chInv l i w) (h1 : i < (l.length : Int)) {d : Op3} (h3 : errO (l.getD i.toNat d) ≠ 3) {w' : Int} (hw : w' = if errO (l.getD i.toNat d) = 4 then 4 else w) :
    chInv l (w64 (i + 1)) w' ∧ ((decide (0 ≤ opMu l (w64 (i + 1)))) = true ∧ (decide (opMu l (w64 (i + 1)) < opMu l i)) = true) := by
  obtain ⟨i0, i1, i2, i3⟩ := hI
  obtain ⟨hm, ht⟩ := mem_at i0 h1 d
  have e : w64 (i + 1) = i + 1 := w64_id (by omega) (by omega)
  rw [e]
  refine ⟨⟨by omega, by omega, ?_, ?_⟩, decide_eq_true (by unfold opMu; omega), decide_eq_true (by unfold opMu; omega)⟩
  · rw [ht]
    intro o ho
    rcases List.mem_append.1 ho with ho | ho
    · exact i2 o ho
    · rw [List.mem_singleton.1 ho]; exact h3
  · rw [ht, errL_snoc i2 h3, hw, i3]
theorem ch_end {l : List Op3} {i w : Int} (hI : chInv l i w) (h1 : ¬ i < (l.length : Int)) : (w, ()) = (errL l, ()) := by
  obtain ⟨i0, i1, i2, i3⟩ := hI
  rw [i3, List.take_of_length_le (by omega)]
/-! ### Products -/
theorem row24 {x y z a b c : Int} (ha : 0 ≤ a ∧ a ≤ 23) (hb : 0 ≤ b ∧ b ≤ 23) (hc : 0 ≤ c ∧ c ≤ 23) : r24 (w64 (r24 (w64 (r24 (0 + w64 (r24 x * a)) + w64 (r24 y * b))) + w64 (r24 z * c))) = (x * a + y * b + z * c) % 24 := by
  have m : ∀ u v : Int, (0 ≤ v ∧ v ≤ 23) → w64 (r24 u * v) = (u % 24) * v ∧ 0 ≤ (u % 24) * v ∧ (u % 24) * v ≤ 529 := fun u v hv => by
    rw [r24_eq]
    have h1 : 0 ≤ (u % 24) * v := Int.mul_nonneg (by omega) hv.1
    have h2 := mulB (a := u % 24) (b := v) 23 23 (by omega) (by omega) (by omega) hv.2
    exact ⟨w64_id (by omega) (by omega), h1, by omega⟩
  have md : ∀ u v : Int, ((u % 24) * v) % 24 = (u * v) % 24 := fun u v => by rw [Int.mul_emod, Int.emod_emod_of_dvd _ (Int.dvd_refl 24), ← Int.mul_emod]
  obtain ⟨p1, p2, p3⟩ := m x a ha
  obtain ⟨q1, q2, q3⟩ := m y b hb
  obtain ⟨s1, s2, s3⟩ := m z c hc
  have e1 := md x a
  have e2 := md y b
  have e3 := md z c
  rw [p1, q1, s1, r24_eq, r24_eq, r24_eq]
  generalize x % 24 * a = P at *
  generalize y % 24 * b = Q at *
  generalize z % 24 * c = S at *
  generalize x * a = P' at *
  generalize y * b = Q' at *
  generalize z * c = S' at *
  rw [w64_id (x := (0 + P) % 24 + Q) (by omega) (by omega), w64_id (x := ((0 + P) % 24 + Q) % 24 + S) (by omega) (by omega)]
  omega
theorem shi_ok (r : M3) {t : V3} (h : inT t = true) : V3.mk (r24 (w64 (r24 (w64 (r24 (0 + w64 (r24 r.xx * t.x)) + w64 (r24 r.xy * t.y))) + w64 (r24 r.xz * t.z)))) (r24 (w64 (r24 (w64 (r24 (0 + w64 (r24 r.yx * t.x)) + w64 (r24 r.yy * t.y))) + w64 (r24 r.yz * t.z)))) (r24 (w64 (r24 (w64 (r24 (0 + w64 (r24 r.zx * t.x)) + w64 (r24 r.zy * t.y))) + w64 (r24 r.zz * t.z)))) = shiT r t := by
  obtain ⟨a, b, c⟩ := inT_iff.1 h
  rw [row24 a b c, row24 a b c, row24 a b c]; rfl
theorem mul_T (a b : Op3) : addT (shiT a.R b.T) a.T = (mulO a b).T := by
  show eqV 24 (addV (modV 24 (appZ a.R b.T)) a.T) (addV (appZ a.R b.T) a.T)
  exact eqV_add (eqV_mod _ _) (eqV.refl _ _)
theorem mul_R {a b : Op3} (ha : errM a.R = 0) (hb : errM b.R = 0) : wM (mulZ a.R b.R) = mulZ a.R b.R := wM_id (by decide) (mulZ_B (okM_B (errM_ok.1 ha)) (okM_B (errM_ok.1 hb)))
theorem inT_B {t : V3} (h : inT t = true) : (-24 ≤ t.x ∧ t.x ≤ 24) ∧ (-24 ≤ t.y ∧ t.y ≤ 24) ∧ (-24 ≤ t.z ∧ t.z ≤ 24) := by
  rw [inT_iff] at h; omega
/-- All parts within k. -/
def BndV (k : Int) (v : V3) : Prop := (-k ≤ v.x ∧ v.x ≤ k) ∧ (-k ≤ v.y ∧ v.y ≤ k) ∧ (-k ≤ v.z ∧ v.z ≤ k)
theorem appB {k l : Int} {m : M3} {v : V3} (hm : Bnd k m) (hv : BndV l v) : BndV (3 * (k * l)) (appZ m v) :=
  ⟨dotB k l hm.xx hm.xy hm.xz hv.1 hv.2.1 hv.2.2, dotB k l hm.yx hm.yy hm.yz hv.1 hv.2.1 hv.2.2, dotB k l hm.zx hm.zy hm.zz hv.1 hv.2.1 hv.2.2⟩
theorem wV_id {k : Int} {v : V3} (hk : k ≤ 9223372036854775807) (h : BndV k v) : wV v = v := by
  obtain ⟨h1, h2, h3⟩ := h
  unfold wV
  rw [w64_id (by omega) (by omega), w64_id (by omega) (by omega), w64_id (by omega) (by omega)]
theorem addB {k l : Int} {a b : V3} (ha : BndV k a) (hb : BndV l b) : BndV (k + l) (addV a b) := by
  obtain ⟨h1, h2, h3⟩ := ha
  obtain ⟨h4, h5, h6⟩ := hb
  exact ⟨⟨by simp only [addV]; omega, by simp only [addV]; omega⟩, ⟨by simp only [addV]; omega, by simp only [addV]; omega⟩, ⟨by simp only [addV]; omega, by simp only [addV]; omega⟩⟩
theorem sml_pre {a b : Op3} (ha : sml a) (hb : sml b) : mulPre a b := ⟨ha.1, hb.1, ha.2, hb.2⟩
theorem frm_sml {o : Op3} (h : Frm o) : sml o := ⟨errM_B (by decide) h.B, h.T⟩
theorem errL_pre {a b : Op3} (h : errL [a, b] = 0) : mulPre a b := by
  obtain ⟨ha, hb⟩ := frm_errL h
  exact sml_pre (frm_sml ha) (frm_sml hb)
/-! ### Powers -/
/-! ### Orders -/
/-! ### Gcds -/
end Go.Fx
end
section
namespace Go.Fx
open Go

def Op3.row (o : Op3) : List Int := [o.R.xx, o.R.xy, o.R.xz, o.R.yx, o.R.yy, o.R.yz, o.R.zx, o.R.zy, o.R.zz, o.T.x, o.T.y, o.T.z]
theorem lexL_app : ∀ {a b c d : List Int}, a.length = b.length → lexL (a ++ c) (b ++ d) = if lexL a b = 0 then lexL c d else lexL a b
  | [], [], _, _, _ => rfl
  | x :: r, y :: s, c, d, h => by
    have ih := lexL_app (a := r) (b := s) (c := c) (d := d) (by simpa using h)
    simp only [List.cons_append, lexL]
    rw [ih]
    unfold cmpE
    by_cases h1 : x < y
    · simp [h1]
    · by_cases h2 : y < x
      · simp [h1, h2]
      · simp [h1, h2]
theorem cmpO_lex (a b : Op3) : cmpO a b = lexL a.row b.row := by
  have := lexL_app (a := a.R.row) (b := b.R.row) (c := [a.T.x, a.T.y, a.T.z]) (d := [b.T.x, b.T.y, b.T.z]) rfl
  exact this.symm
theorem opRow_inj {a b : Op3} (h : a.row = b.row) : a = b := by
  obtain ⟨⟨a1, a2, a3, a4, a5, a6, a7, a8, a9⟩, ⟨a10, a11, a12⟩⟩ := a
  obtain ⟨⟨b1, b2, b3, b4, b5, b6, b7, b8, b9⟩, ⟨b10, b11, b12⟩⟩ := b
  simp only [Op3.row, List.cons.injEq, and_true] at h
  obtain ⟨rfl, rfl, rfl, rfl, rfl, rfl, rfl, rfl, rfl, rfl, rfl, rfl⟩ := h
  rfl
theorem cmpO_zero {a b : Op3} : cmpO a b = 0 ↔ a = b := by
  rw [cmpO_lex, lexL_zero (a := a.row) (b := b.row) rfl]
  exact ⟨opRow_inj, fun h => by rw [h]⟩
theorem cmpO_anti (a b : Op3) : cmpO b a = -cmpO a b := by rw [cmpO_lex, cmpO_lex]; exact lexL_anti _ _
theorem cmpO_trans (a b c : Op3) : (cmpO a b ≤ 0 → cmpO b c ≤ 0 → cmpO a c ≤ 0) ∧ (cmpO a b < 0 → cmpO b c ≤ 0 → cmpO a c < 0) ∧ (cmpO a b ≤ 0 → cmpO b c < 0 → cmpO a c < 0) := by
  rw [cmpO_lex, cmpO_lex, cmpO_lex]; exact lexL_trans (a := a.row) (b := b.row) (c := c.row) rfl rfl

/-! ### Sums of turned translations -/
theorem bv24 {t : V3} (h : inT t = true) : BndV 24 t := inT_B h
/-! ### Kinds -/
/-! ### Translations' orders -/
def gcdChk : Bool := (List.range 24).all fun x => (List.range 24).all fun y => (List.range 24).all fun z => decide (lstT (V3.mk x y z) 24 1 = 24 / ((Nat.gcd (Nat.gcd (Nat.gcd 24 x) y) z : Nat) : Int))
end Go.Fx
end
