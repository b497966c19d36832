/-
  Unipotent matrices whose squares stay small; maps of groups have orders.
-/
import Derived.Test.YtkmbomopkojgfaaHg
set_option linter.unusedSimpArgs false
set_option linter.unusedVariables false
set_option linter.unusedSectionVars false
namespace Go.Fx
open Go
def subN (m : M3) : M3 := M3.mk (m.xx - 1) m.xy m.xz m.yx (m.yy - 1) m.yz m.zx m.zy (m.zz - 1)
theorem n3_eq (m : M3) : mulZ (subN m) (mulZ (subN m) (subN m)) = M3.mk
    ((trcZ m - 3) * (mulZ m m).xx - (sZ m - 3) * m.xx + (detZ m - 1)) ((trcZ m - 3) * (mulZ m m).xy - (sZ m - 3) * m.xy) ((trcZ m - 3) * (mulZ m m).xz - (sZ m - 3) * m.xz)
    ((trcZ m - 3) * (mulZ m m).yx - (sZ m - 3) * m.yx) ((trcZ m - 3) * (mulZ m m).yy - (sZ m - 3) * m.yy + (detZ m - 1)) ((trcZ m - 3) * (mulZ m m).yz - (sZ m - 3) * m.yz)
    ((trcZ m - 3) * (mulZ m m).zx - (sZ m - 3) * m.zx) ((trcZ m - 3) * (mulZ m m).zy - (sZ m - 3) * m.zy) ((trcZ m - 3) * (mulZ m m).zz - (sZ m - 3) * m.zz + (detZ m - 1)) := by
  simp only [mulZ, subN, trcZ, sZ, adjZ, detZ, M3.mk.injEq]
  refine ⟨?_, ?_, ?_, ?_, ?_, ?_, ?_, ?_, ?_⟩ <;> grind
def zeZ : M3 := M3.mk 0 0 0 0 0 0 0 0 0
theorem n3_zero {m : M3} (ht : trcZ m = 3) (hs : sZ m = 3) (hd : detZ m = 1) : mulZ (subN m) (mulZ (subN m) (subN m)) = zeZ := by
  rw [n3_eq, ht, hs, hd]
  simp [zeZ]
theorem mul_ze (m : M3) : mulZ zeZ m = zeZ := by simp [mulZ, zeZ]
theorem cmb_sq {N M : M3} (a b : Int) (h1 : mulZ N N = M) (h2 : mulZ N M = zeZ) (h3 : mulZ M N = zeZ) (h4 : mulZ M M = zeZ) : mulZ (cmb a b N M) (cmb a b N M) = cmb (2 * a) (2 * b + a * a) N M := by
  simp only [mulZ, zeZ, M3.mk.injEq] at h2 h3 h4
  obtain ⟨b1, b2, b3, b4, b5, b6, b7, b8, b9⟩ := h2
  obtain ⟨c1, c2, c3, c4, c5, c6, c7, c8, c9⟩ := h3
  obtain ⟨d1, d2, d3, d4, d5, d6, d7, d8, d9⟩ := h4
  have a1 := congrArg M3.xx h1; have a2 := congrArg M3.xy h1; have a3 := congrArg M3.xz h1
  have a4 := congrArg M3.yx h1; have a5 := congrArg M3.yy h1; have a6 := congrArg M3.yz h1
  have a7 := congrArg M3.zx h1; have a8 := congrArg M3.zy h1; have a9 := congrArg M3.zz h1
  simp only [mulZ] at a1 a2 a3 a4 a5 a6 a7 a8 a9
  have q1 := ent (p := 0) a b 0 0 a1 b1 c1 d1
  have q2 := ent (p := 0) a b 0 0 a2 b2 c2 d2
  have q3 := ent (p := 0) a b 0 0 a3 b3 c3 d3
  have q4 := ent (p := 0) a b 0 0 a4 b4 c4 d4
  have q5 := ent (p := 0) a b 0 0 a5 b5 c5 d5
  have q6 := ent (p := 0) a b 0 0 a6 b6 c6 d6
  have q7 := ent (p := 0) a b 0 0 a7 b7 c7 d7
  have q8 := ent (p := 0) a b 0 0 a8 b8 c8 d8
  have q9 := ent (p := 0) a b 0 0 a9 b9 c9 d9
  clear a1 a2 a3 a4 a5 a6 a7 a8 a9 b1 b2 b3 b4 b5 b6 b7 b8 b9 c1 c2 c3 c4 c5 c6 c7 c8 c9 d1 d2 d3 d4 d5 d6 d7 d8 d9 h1
  simp only [mulZ, cmb, M3.mk.injEq]
  refine ⟨?_, ?_, ?_, ?_, ?_, ?_, ?_, ?_, ?_⟩
  · clear q2 q3 q4 q5 q6 q7 q8 q9; grind
  · clear q1 q3 q4 q5 q6 q7 q8 q9; grind
  · clear q1 q2 q4 q5 q6 q7 q8 q9; grind
  · clear q1 q2 q3 q5 q6 q7 q8 q9; grind
  · clear q1 q2 q3 q4 q6 q7 q8 q9; grind
  · clear q1 q2 q3 q4 q5 q7 q8 q9; grind
  · clear q1 q2 q3 q4 q5 q6 q8 q9; grind
  · clear q1 q2 q3 q4 q5 q6 q7 q9; grind
  · clear q1 q2 q3 q4 q5 q6 q7 q8; grind
theorem sq_cmb {m : M3} (ht : trcZ m = 3) (hs : sZ m = 3) (hd : detZ m = 1) : ∀ k, sqN k m = cmb (alN k) (beN k) (subN m) (mulZ (subN m) (subN m))
  | 0 => by
    show m = cmb 1 0 _ _
    refine m3_ext ?_ ?_ ?_ ?_ ?_ ?_ ?_ ?_ ?_ <;> simp only [cmb, subN] <;> omega
  | k + 1 => by
    have h2 := n3_zero ht hs hd
    have h3 : mulZ (mulZ (subN m) (subN m)) (subN m) = zeZ := by rw [mulZ_assoc]; exact h2
    have h4 : mulZ (mulZ (subN m) (subN m)) (mulZ (subN m) (subN m)) = zeZ := by rw [← mulZ_assoc, h3]; exact mul_ze _
    show mulZ (sqN k m) (sqN k m) = _
    rw [sq_cmb ht hs hd k]
    exact cmb_sq _ _ rfl h2 h3 h4
theorem two_lin {e x y : Int} (he : e = 0 ∨ e = 1) (h1 : -1000 ≤ e + 1024 * x + 523776 * y ∧ e + 1024 * x + 523776 * y ≤ 1000) (h2 : -1000 ≤ e + 2048 * x + 2096128 * y ∧ e + 2048 * x + 2096128 * y ≤ 1000) : x = 0 := by
  obtain ⟨A, hA⟩ : ∃ A, A = e + 1024 * x + 523776 * y := ⟨_, rfl⟩
  have hB : e + 2048 * x + 2096128 * y = 2 * A - e + 1048576 * y := by omega
  rw [← hA] at h1
  rw [hB] at h2
  have hy : y = 0 := by
    clear hA hB
    omega
  subst hy
  clear hB h2
  omega
theorem uni_one {m : M3} (ht : trcZ m = 3) (hs : sZ m = 3) (hd : detZ m = 1) (hb : ∀ k, Bnd 1000 (sqN k m)) : m = oneZ 1 := by
  have b1 := hb 10
  have b2 := hb 11
  rw [sq_cmb ht hs hd] at b1 b2
  have e1 : alN 10 = 1024 := by decide
  have e2 : beN 10 = 523776 := by decide
  have e3 : alN 11 = 2048 := by decide
  have e4 : beN 11 = 2096128 := by decide
  rw [e1, e2] at b1
  rw [e3, e4] at b2
  generalize mulZ (subN m) (subN m) = M at b1 b2
  have z1 := two_lin (x := (subN m).xx) (y := M.xx) (.inr rfl) b1.xx b2.xx
  have z5 := two_lin (x := (subN m).yy) (y := M.yy) (.inr rfl) b1.yy b2.yy
  have z9 := two_lin (x := (subN m).zz) (y := M.zz) (.inr rfl) b1.zz b2.zz
  have off : ∀ {x y : Int}, (-1000 ≤ 1024 * x + 523776 * y ∧ 1024 * x + 523776 * y ≤ 1000) → (-1000 ≤ 2048 * x + 2096128 * y ∧ 2048 * x + 2096128 * y ≤ 1000) → x = 0 := fun {x y} h1 h2 => two_lin (e := 0) (y := y) (.inl rfl) (by rw [Int.zero_add]; exact h1) (by rw [Int.zero_add]; exact h2)
  have z2 := off (x := (subN m).xy) (y := M.xy) b1.xy b2.xy
  have z3 := off (x := (subN m).xz) (y := M.xz) b1.xz b2.xz
  have z4 := off (x := (subN m).yx) (y := M.yx) b1.yx b2.yx
  have z6 := off (x := (subN m).yz) (y := M.yz) b1.yz b2.yz
  have z7 := off (x := (subN m).zx) (y := M.zx) b1.zx b2.zx
  have z8 := off (x := (subN m).zy) (y := M.zy) b1.zy b2.zy
  simp only [subN] at z1 z2 z3 z4 z5 z6 z7 z8 z9
  refine m3_ext ?_ ?_ ?_ ?_ ?_ ?_ ?_ ?_ ?_ <;> simp only [oneZ] <;> omega
/-- A matrix of determinant 1 whose squares stay small is of one of five kinds. -/
theorem five {m : M3} (hd : detZ m = 1) (hb : ∀ k, Bnd 1000 (sqN k m)) :
    (trcZ m = -1 ∧ sZ m = -1 ∧ mulZ m m = oneZ 1) ∨ (trcZ m = 0 ∧ sZ m = 0) ∨ (trcZ m = 1 ∧ sZ m = 1) ∨ (trcZ m = 2 ∧ sZ m = 2) ∨ m = oneZ 1 := by
  have sh : ∀ j, (-3 ≤ trcZ (sqN j m) ∧ trcZ (sqN j m) ≤ 3) ∧ (-3 ≤ sZ (sqN j m) ∧ sZ (sqN j m) ≤ 3) := fun j => ts_small (sq_det hd j) fun k => by rw [sq_add]; exact hb _
  have st : ∀ j, trcZ (sqN (j + 1) m) = trcZ (sqN j m) * trcZ (sqN j m) - 2 * sZ (sqN j m) ∧ sZ (sqN (j + 1) m) = sZ (sqN j m) * sZ (sqN j m) - 2 * trcZ (sqN j m) := fun j => by
    refine ⟨sq_t _, ?_⟩
    have := sq_s (sqN j m)
    rw [sq_det hd j, Int.one_mul] at this
    exact this
  have h := ts_five (sh 0) (st 0).1 (st 0).2 (sh 1) (st 1).1 (st 1).2 (sh 2) (st 2).1 (st 2).2 (sh 3)
  have e0 : sqN 0 m = m := rfl
  rw [e0] at h
  rcases h with ⟨h1, h2⟩ | h | h | h | ⟨h1, h2⟩
  · refine .inl ⟨h1, h2, ?_⟩
    have q := st 0
    rw [e0, h1, h2] at q
    exact uni_one (m := sqN 1 m) q.1 q.2 (sq_det hd 1) fun k => by rw [sq_add]; exact hb _
  · exact .inr (.inl h)
  · exact .inr (.inr (.inl h))
  · exact .inr (.inr (.inr (.inl h)))
  · exact .inr (.inr (.inr (.inr (uni_one h1 h2 hd hb))))
theorem sca_m1 (m : M3) : mulZ (scaZ (-1) m) (scaZ (-1) m) = mulZ m m ∧ trcZ (scaZ (-1) m) = -trcZ m ∧ sZ (scaZ (-1) m) = sZ m ∧ detZ (scaZ (-1) m) = -detZ m := by
  refine ⟨?_, ?_, ?_, ?_⟩
  · simp only [mulZ, scaZ, M3.mk.injEq]; refine ⟨?_, ?_, ?_, ?_, ?_, ?_, ?_, ?_, ?_⟩ <;> grind
  · simp only [trcZ, scaZ]; omega
  · simp only [sZ, trcZ, adjZ, scaZ]; grind
  · simp only [detZ, scaZ]; grind
theorem sq_sca (m : M3) : ∀ k, sqN (k + 1) (scaZ (-1) m) = sqN (k + 1) m
  | 0 => (sca_m1 m).1
  | k + 1 => by
    show mulZ (sqN (k + 1) (scaZ (-1) m)) (sqN (k + 1) (scaZ (-1) m)) = mulZ (sqN (k + 1) m) (sqN (k + 1) m)
    rw [sq_sca m k]
theorem bnd_rord {m : M3} (hd : detZ m = 1 ∨ detZ m = -1) (hb : ∀ k, Bnd 1000 (sqN k m)) : rordX m ≠ 0 := by
  unfold rordX
  by_cases h1 : eqM m (oneZ 1) = true
  · rw [if_pos h1]; decide
  rw [if_neg h1]
  by_cases h2 : eqM (mulZ m m) (oneZ 1) = true
  · rw [if_pos h2]; decide
  rw [if_neg h2]
  have n1 : m ≠ oneZ 1 := fun e => h1 (eqM_iff.2 e)
  have n2 : mulZ m m ≠ oneZ 1 := fun e => h2 (eqM_iff.2 e)
  rcases hd with hd | hd
  · rcases five hd hb with ⟨_, _, h⟩ | ⟨a, b⟩ | ⟨a, b⟩ | ⟨a, b⟩ | h
    · exact absurd h n2
    · rw [a, b, hd]; decide
    · rw [a, b, hd]; decide
    · rw [a, b, hd]; decide
    · exact absurd h n1
  · obtain ⟨s1, s2, s3, s4⟩ := sca_m1 m
    have hb2 : ∀ k, Bnd 1000 (sqN k (scaZ (-1) m)) := fun k => by
      cases k with
      | zero =>
        have h := hb 0
        have h : Bnd 1000 m := h
        show Bnd 1000 (scaZ (-1) m)
        refine ⟨?_, ?_, ?_, ?_, ?_, ?_, ?_, ?_, ?_⟩ <;> simp only [scaZ]
        · have := h.xx; omega
        · have := h.xy; omega
        · have := h.xz; omega
        · have := h.yx; omega
        · have := h.yy; omega
        · have := h.yz; omega
        · have := h.zx; omega
        · have := h.zy; omega
        · have := h.zz; omega
      | succ k => rw [sq_sca]; exact hb _
    rcases five (by rw [s4, hd]; rfl) hb2 with ⟨_, _, h⟩ | ⟨a, b⟩ | ⟨a, b⟩ | ⟨a, b⟩ | h
    · exact absurd (s1.symm.trans h) n2
    · rw [show trcZ m = 0 by omega, show sZ m = 0 by omega, hd]; decide
    · rw [show trcZ m = -1 by omega, show sZ m = 1 by omega, hd]; decide
    · rw [show trcZ m = -2 by omega, show sZ m = 2 by omega, hd]; decide
    · exact absurd (by rw [← s1, h]; exact (mulZ_one _).1) n2
/-- Every map of a group has an order. -/
theorem grp_oro {g : List Op3} (hg : chkE g = 0) {o : Op3} (ho : o ∈ g) : oroE o = 0 := by
  obtain ⟨hF, _, _, hcl⟩ := chk_grp hg
  have key : ∀ k, ∃ p ∈ g, sqN k o.R = p.R := fun k => by
    induction k with
    | zero => exact ⟨o, ho, rfl⟩
    | succ k ih =>
      obtain ⟨p, hp, e⟩ := ih
      refine ⟨mulO p p, hcl p hp p hp, ?_⟩
      show mulZ (sqN k o.R) (sqN k o.R) = mulZ p.R p.R
      rw [e]
  have h := bnd_rord (hF o ho).d fun k => by
    obtain ⟨p, hp, e⟩ := key k
    rw [e]; exact (hF p hp).B
  rw [oro_vals (hF o ho), if_neg h]
end Go.Fx
