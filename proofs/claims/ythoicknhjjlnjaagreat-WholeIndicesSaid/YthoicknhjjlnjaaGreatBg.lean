/-
  Layer 7: maps and places go along.
-/
import Derived.Test.YthoicknhjjlnjaaGreatBa
namespace Go.Fx
open Go

def Chg.op (c : Chg) : Op3 := Op3.mk c.P c.O
theorem tol_R {c : Chg} {o : Op3} (h : tolP c o) : (tolW c (invW c.P) o).R = mulZ (mulZ c.P o.R) (invZ c.P) := by
  obtain ⟨hu, ho⟩ := h
  obtain ⟨hb, _, _⟩ := uniE_ok hu
  have fo := errO_ok.1 ho
  obtain ⟨i1, i2⟩ := invW_id hu
  have b1 := mulZ_B hb fo.B
  have b2 := mulZ_B b1 i2
  show wM (mulZ (wM (mulZ c.P o.R)) (invW c.P)) = _
  rw [wM_id (by decide) b1, i1, wM_id (by decide) b2]
theorem tol_mul {c : Chg} {o : Op3} (h : tolP c o) : mulO (tolW c (invW c.P) o) c.op = mulO c.op o := by
  have hr := tol_R h
  have hd := (uniE_ok h.1).2.2
  refine Op3.ext' ?_ ?_
  · show mulZ (tolW c (invW c.P) o).R c.P = mulZ c.P o.R
    rw [hr, mulZ_assoc, inv_l hd, (mulZ_one _).2]
  · show modV 24 (addV (appZ (tolW c (invW c.P) o).R c.O) (tolW c (invW c.P) o).T) = modV 24 (addV (appZ c.P o.T) c.O)
    have ht : eqV 24 (tolW c (invW c.P) o).T (addV (addV (appZ c.P o.T) c.O) (negV (appZ (tolW c (invW c.P) o).R c.O))) := by
      show eqV 24 (addT (addT (shiT c.P o.T) c.O) (negT (shiT (tolW c (invW c.P) o).R c.O))) _
      refine (eqV_mod 24 _).trans (eqV_add ?_ ?_)
      · exact (eqV_mod 24 _).trans (eqV_add (eqV_mod 24 _) (eqV.refl _ _))
      · exact (eqV_mod 24 _).trans (eqV_neg (eqV_mod 24 _))
    have h2 := eqV_add (eqV.refl 24 (appZ (tolW c (invW c.P) o).R c.O)) ht
    refine h2.trans ?_
    generalize appZ (tolW c (invW c.P) o).R c.O = U
    generalize addV (appZ c.P o.T) c.O = A
    have : addV U (addV A (negV U)) = A := by rw [addV_comm, addV_assoc, addV_comm (negV U), addV_neg, addV_zero]
    rw [this]; exact eqV.refl _ _
theorem bop_frm {c : Chg} {o : Op3} (h : bopE c o = 0) : tolP c o ∧ Frm (tolW c (invW c.P) o) ∧ bopO c o = tolW c (invW c.P) o := by
  unfold bopE at h
  split at h
  · rename_i h0
    have ht := lst2_zero h0
    have hd := (uniE_ok ht.1).2.2
    refine ⟨ht, ⟨inT_mod _, okM_B (errM_ok.1 h), ?_⟩, ?_⟩
    · rw [tol_R ht, (conj_tsd (M := o.R) (inv_l hd) (inv_r hd)).2.2]; exact (errO_ok.1 ht.2).d
    · have h' : bopE c o = 0 := by unfold bopE; rw [if_pos h0]; exact h
      unfold bopO; rw [h']; rfl
  · rename_i h0; exact absurd h h0
theorem pnt_zero {c : Chg} {p : Pt} (h : pntE c p = 0) : uniE c.P = 0 ∧ frmP p = true ∧ pntP c p = appX c.op p := by
  have h' := h
  unfold pntE at h
  split at h
  · rename_i hf
    exact ⟨h, hf, by unfold pntP; rw [if_pos h']; rfl⟩
  · exact absurd h (by decide)
theorem pntE_of {c : Chg} {p : Pt} (hu : uniE c.P = 0) (hf : frmP p = true) : pntE c p = 0 := by unfold pntE; rw [if_pos hf, hu]
theorem pntE_vals (c : Chg) (p : Pt) : pntE c p = 0 ∨ pntE c p = 3 ∨ pntE c p = 4 := by
  unfold pntE; split
  · exact uniE_034 _
  · exact .inr (.inl rfl)
theorem bopE_vals (c : Chg) (o : Op3) : bopE c o = 0 ∨ bopE c o = 3 ∨ bopE c o = 4 := by
  unfold bopE; split
  · rcases errM_cases (tolW c (invW c.P) o).R with h | h
    · exact .inl h
    · exact .inr (.inr h)
  · unfold lst2
    rcases uniE_034 c.P with h1 | h1 | h1 <;> rcases errO_034 o with h2 | h2 | h2 <;> rw [h1, h2] <;> simp
theorem appE_vals (o : Op3) (p : Pt) : appE o p = 0 ∨ appE o p = 3 ∨ appE o p = 4 := by
  unfold appE; split
  · exact errO_034 _
  · exact .inr (.inl rfl)
theorem app_zer {o : Op3} {p : Pt} (h : appE o p ≠ 0) : appP o p = zerP := by unfold appP; rw [if_neg h]
theorem app_fine {o : Op3} {p : Pt} (h : appE o p = 0) : frmP p = true ∧ Frm o ∧ appP o p = appX o p := by
  have h' := h
  unfold appE at h
  split at h
  · rename_i hf
    exact ⟨hf, errO_ok.1 h, by unfold appP; rw [if_pos h']⟩
  · exact absurd h (by decide)
theorem goes {c : Chg} {o : Op3} {p : Pt} (h1 : appE o p = 0) (h2 : bopE c o = 0) (h3 : pntE c p = 0) :
    appE (bopO c o) (pntP c p) = 0 ∧ pntE c (appP o p) = 0 ∧ appP (bopO c o) (pntP c p) = pntP c (appP o p) ∧ frmP (appP (bopO c o) (pntP c p)) = true := by
  obtain ⟨hf, fo, e1⟩ := app_fine h1
  obtain ⟨ht, ft, e2⟩ := bop_frm h2
  obtain ⟨hu, _, e3⟩ := pnt_zero h3
  have f1 : frmP (appX o p) = true := frm_appX o hf
  have f2 : frmP (appX c.op p) = true := frm_appX c.op hf
  have q1 : appE (bopO c o) (pntP c p) = 0 := by rw [e2, e3]; unfold appE; rw [if_pos f2, ft.err]
  have q2 : pntE c (appP o p) = 0 := by rw [e1]; exact pntE_of hu f1
  have q3 : appP (bopO c o) (pntP c p) = appX (tolW c (invW c.P) o) (appX c.op p) := by
    unfold appP; rw [if_pos q1, e2, e3]
  have q4 : pntP c (appP o p) = appX c.op (appX o p) := by rw [(pnt_zero q2).2.2, e1]
  refine ⟨q1, q2, ?_, ?_⟩
  · rw [q3, q4, ← appX_mul _ _ hf, ← appX_mul _ _ hf, tol_mul ht]
  · rw [q3]; exact frm_appX _ f2
end Go.Fx
