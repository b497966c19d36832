/-
  Layer 7: back again; one behind another.
-/
import Derived.Test.YthoicknhjjlnjaaGreatBg
namespace Go.Fx
open Go

theorem bak_ok {c : Chg} (h : bakE c = 0) : uniE c.P = 0 ∧ uniE (bakC c).P = 0 ∧ (bakC c).P = invZ c.P ∧ mulO c.op (bakC c).op = oneO ∧ mulO (bakC c).op c.op = oneO := by
  unfold bakE at h
  split at h
  · rename_i hu
    obtain ⟨i1, i2⟩ := invW_id hu
    have hd := (uniE_ok hu).2.2
    rw [i1] at h
    have hp : (bakC c).P = invZ c.P := i1
    have hT : eqV 24 (bakC c).O (negV (appZ (invZ c.P) c.O)) := by
      show eqV 24 (negT (shiT (invW c.P) c.O)) _
      rw [i1]
      exact (eqV_mod 24 _).trans (eqV_neg (eqV_mod 24 _))
    refine ⟨hu, ?_, hp, Op3.ext' ?_ ?_, Op3.ext' ?_ ?_⟩
    · rw [hp]; exact uniE_of (okM_B (errM_ok.1 h)) (by rw [det_sca_adj hd]; exact hd)
    · show mulZ c.P (bakC c).P = _; rw [hp, inv_r hd]; rfl
    · show modV 24 (addV (appZ c.P (bakC c).O) c.O) = modV 24 (V3.mk 0 0 0)
      have h1 := eqV_add (eqV_app c.P hT) (eqV.refl 24 c.O)
      refine h1.trans ?_
      rw [app_neg, ← app_mul, inv_r hd, app_one, addV_comm, addV_neg]
      exact eqV.refl _ _
    · show mulZ (bakC c).P c.P = _; rw [hp, inv_l hd]; rfl
    · show modV 24 (addV (appZ (bakC c).P c.O) (bakC c).O) = modV 24 (V3.mk 0 0 0)
      rw [hp]
      have h1 := eqV_add (eqV.refl 24 (appZ (invZ c.P) c.O)) hT
      refine h1.trans ?_
      rw [addV_neg]; exact eqV.refl _ _
  · rename_i hu; exact absurd h hu
theorem beh_ok {a b : Chg} (h : behE a b = 0) : uniE a.P = 0 ∧ uniE b.P = 0 ∧ uniE (behC a b).P = 0 ∧ (behC a b).op = mulO a.op b.op := by
  unfold behE at h
  split at h
  · rename_i h0
    obtain ⟨h1, h2⟩ := lst2_zero h0
    have hw : wM (mulZ a.P b.P) = mulZ a.P b.P := wM_id (by decide) (mulZ_B (uniE_ok h1).1 (uniE_ok h2).1)
    rw [hw] at h
    refine ⟨h1, h2, ?_, Op3.ext' hw (mul_T a.op b.op)⟩
    show uniE (wM (mulZ a.P b.P)) = 0
    rw [hw]
    refine uniE_of (okM_B (errM_ok.1 h)) ?_
    rw [det_mul]
    rcases (uniE_ok h1).2.2 with e | e <;> rcases (uniE_ok h2).2.2 with e' | e' <;> rw [e, e'] <;> decide
  · rename_i h0; exact absurd h h0
theorem bak_beh {c : Chg} (h : bakE c = 0) : behE c (bakC c) = 0 ∧ behC c (bakC c) = Chg.mk (oneZ 1) (V3.mk 0 0 0) := by
  obtain ⟨h1, h2, h3, h4, h5⟩ := bak_ok h
  have hr : mulZ c.P (bakC c).P = oneZ 1 := congrArg Op3.R h4
  have hw : wM (mulZ c.P (bakC c).P) = oneZ 1 := by rw [hr]; exact wM_id (by decide) one_B
  have he : behE c (bakC c) = 0 := by
    unfold behE
    rw [h1, h2, if_pos (by rfl), hw]; decide
  refine ⟨he, ?_⟩
  have ho := (beh_ok he).2.2.2
  rw [h4] at ho
  have e1 : (behC c (bakC c)).P = oneZ 1 := congrArg Op3.R ho
  have e2 : (behC c (bakC c)).O = V3.mk 0 0 0 := congrArg Op3.T ho
  rw [← e1, ← e2]
theorem bak_pnt {c : Chg} {p : Pt} (h : bakE c = 0) (hp : pntE c p = 0) : pntE (bakC c) (pntP c p) = 0 ∧ pntP (bakC c) (pntP c p) = p := by
  obtain ⟨h1, h2, h3, h4, h5⟩ := bak_ok h
  obtain ⟨_, hf, e1⟩ := pnt_zero hp
  have q : pntE (bakC c) (pntP c p) = 0 := by rw [e1]; exact pntE_of h2 (frm_appX _ hf)
  refine ⟨q, ?_⟩
  rw [(pnt_zero q).2.2, e1, ← appX_mul _ _ hf, h5, appX_one hf]
theorem bak_op {c : Chg} {o : Op3} (h : bakE c = 0) (ho : bopE c o = 0) : bopE (bakC c) (bopO c o) = 0 ∧ bopO (bakC c) (bopO c o) = o := by
  obtain ⟨h1, h2, h3, h4, h5⟩ := bak_ok h
  obtain ⟨ht, ft, e⟩ := bop_frm ho
  have fo := errO_ok.1 ht.2
  have ht' : tolP (bakC c) (tolW c (invW c.P) o) := ⟨h2, ft.err⟩
  have m1 := tol_mul ht
  have m2 := tol_mul ht'
  have key : tolW (bakC c) (invW (bakC c).P) (tolW c (invW c.P) o) = o := by
    have e1 : mulO (mulO (tolW (bakC c) (invW (bakC c).P) (tolW c (invW c.P) o)) (bakC c).op) c.op = o := by
      rw [m2, mulO_assoc, m1, ← mulO_assoc, h5, (mulO_one fo.T).2]
    rw [mulO_assoc, h5, (mulO_one (inT_mod _)).1] at e1
    exact e1
  have q : bopE (bakC c) (bopO c o) = 0 := by
    unfold bopE
    rw [e, h2, ft.err, if_pos (by rfl), key]
    exact errM_B (by decide) fo.B
  refine ⟨q, ?_⟩
  rw [(bop_frm q).2.2, e, key]
theorem beh_pnt {a b : Chg} {p : Pt} (h : behE a b = 0) : (pntE b p ≠ 0 → pntE b p = 3 ∧ pntE (behC a b) p = 3) ∧
    (pntE b p = 0 → pntE a (pntP b p) = 0 ∧ pntE (behC a b) p = 0 ∧ pntP a (pntP b p) = pntP (behC a b) p) := by
  obtain ⟨h1, h2, h3, h4⟩ := beh_ok h
  refine ⟨fun hp => ?_, fun hp => ?_⟩
  · unfold pntE at hp ⊢
    by_cases hf : frmP p = true
    · rw [if_pos hf] at hp; exact absurd h2 hp
    · rw [if_neg hf, if_neg hf]; exact ⟨rfl, rfl⟩
  · obtain ⟨_, hf, e⟩ := pnt_zero hp
    have q1 : pntE a (pntP b p) = 0 := by rw [e]; exact pntE_of h1 (frm_appX _ hf)
    have q2 : pntE (behC a b) p = 0 := pntE_of h3 hf
    refine ⟨q1, q2, ?_⟩
    rw [(pnt_zero q1).2.2, (pnt_zero q2).2.2, e, h4, appX_mul _ _ hf]
theorem behE_vals (a b : Chg) : behE a b = 0 ∨ behE a b = 3 ∨ behE a b = 4 := by
  unfold behE; split
  · rcases errM_cases (wM (mulZ a.P b.P)) with h | h
    · exact .inl h
    · exact .inr (.inr h)
  · unfold lst2
    rcases uniE_034 a.P with h1 | h1 | h1 <;> rcases uniE_034 b.P with h2 | h2 | h2 <;> rw [h1, h2] <;> simp
end Go.Fx
