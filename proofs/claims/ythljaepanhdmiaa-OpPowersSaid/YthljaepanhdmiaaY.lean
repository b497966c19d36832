/-
  The algebra of maps: products taken together in any way, what undoes, places.
-/
import Derived.Test.YthljaepanhdmiaaU
namespace Go.Fx
open Go

theorem det_mul (a b : M3) : detZ (mulZ a b) = detZ a * detZ b := by
  simp only [detZ, mulZ]; grind
theorem app_mul (a b : M3) (v : V3) : appZ (mulZ a b) v = appZ a (appZ b v) := by
  simp only [appZ, mulZ, V3.mk.injEq]
  refine ⟨?_, ?_, ?_⟩ <;> grind
theorem app_add (a : M3) (v w : V3) : appZ a (addV v w) = addV (appZ a v) (appZ a w) := by
  simp only [appZ, addV, V3.mk.injEq]
  refine ⟨?_, ?_, ?_⟩ <;> grind
theorem app_neg (a : M3) (v : V3) : appZ a (negV v) = negV (appZ a v) := by
  simp only [appZ, negV, V3.mk.injEq]
  refine ⟨?_, ?_, ?_⟩ <;> grind
theorem app_sca (a : M3) (n : Int) (v : V3) : appZ a (scaV n v) = scaV n (appZ a v) := by
  simp only [appZ, scaV, V3.mk.injEq]
  refine ⟨?_, ?_, ?_⟩ <;> grind
theorem app_one (v : V3) : appZ (oneZ 1) v = v := by
  cases v; simp [appZ, oneZ]
/-! ### Columns modulo p -/
def eqV (p : Int) (v w : V3) : Prop := modV p v = modV p w
theorem eqV_iff {p : Int} {v w : V3} : eqV p v w ↔ v.x % p = w.x % p ∧ v.y % p = w.y % p ∧ v.z % p = w.z % p := by
  simp [eqV, modV]
theorem eqV.refl (p : Int) (v : V3) : eqV p v v := rfl
theorem eqV.symm {p : Int} {v w : V3} (h : eqV p v w) : eqV p w v := Eq.symm h
theorem eqV.trans {p : Int} {u v w : V3} (h : eqV p u v) (h' : eqV p v w) : eqV p u w := Eq.trans h h'
theorem eqV_mod (p : Int) (v : V3) : eqV p (modV p v) v := by
  rw [eqV_iff]; simp only [modV]
  exact ⟨Int.emod_emod_of_dvd _ (Int.dvd_refl p), Int.emod_emod_of_dvd _ (Int.dvd_refl p), Int.emod_emod_of_dvd _ (Int.dvd_refl p)⟩
theorem eqV_add {p : Int} {a b c d : V3} (h : eqV p a b) (h' : eqV p c d) : eqV p (addV a c) (addV b d) := by
  rw [eqV_iff] at *
  obtain ⟨h1, h2, h3⟩ := h
  obtain ⟨h4, h5, h6⟩ := h'
  simp only [addV]
  refine ⟨?_, ?_, ?_⟩
  · rw [Int.add_emod, h1, h4, ← Int.add_emod]
  · rw [Int.add_emod, h2, h5, ← Int.add_emod]
  · rw [Int.add_emod, h3, h6, ← Int.add_emod]
theorem eqV_sca {p : Int} (n : Int) {a b : V3} (h : eqV p a b) : eqV p (scaV n a) (scaV n b) := by
  rw [eqV_iff] at *
  obtain ⟨h1, h2, h3⟩ := h
  simp only [scaV]
  refine ⟨?_, ?_, ?_⟩
  · rw [Int.mul_emod, h1, ← Int.mul_emod]
  · rw [Int.mul_emod, h2, ← Int.mul_emod]
  · rw [Int.mul_emod, h3, ← Int.mul_emod]
theorem neg_sca (a : V3) : negV a = scaV (-1) a := by
  simp only [negV, scaV, V3.mk.injEq]; omega
theorem eqV_neg {p : Int} {a b : V3} (h : eqV p a b) : eqV p (negV a) (negV b) := by
  rw [neg_sca, neg_sca]; exact eqV_sca _ h
theorem dot_modr (a b c x y z p : Int) : (a * (x % p) + b * (y % p) + c * (z % p)) % p = (a * x + b * y + c * z) % p := by
  have := dot_modl x y z a b c p
  rw [Int.mul_comm a, Int.mul_comm b, Int.mul_comm c, this, Int.mul_comm x, Int.mul_comm y, Int.mul_comm z]
theorem eqV_app {p : Int} (m : M3) {a b : V3} (h : eqV p a b) : eqV p (appZ m a) (appZ m b) := by
  have key : ∀ v : V3, modV p (appZ m (modV p v)) = modV p (appZ m v) := fun v => by
    simp only [modV, appZ, dot_modr]
  have h' : modV p a = modV p b := h
  show modV p _ = modV p _
  rw [← key a, ← key b, h']
theorem addV_assoc (a b c : V3) : addV (addV a b) c = addV a (addV b c) := by
  simp only [addV, V3.mk.injEq]; omega
theorem addV_comm (a b : V3) : addV a b = addV b a := by
  simp only [addV, V3.mk.injEq]; omega
theorem addV_zero (a : V3) : addV a (V3.mk 0 0 0) = a := by
  cases a; simp [addV]
theorem addV_neg (a : V3) : addV a (negV a) = V3.mk 0 0 0 := by
  simp only [addV, negV, V3.mk.injEq]; omega
theorem app_zero (m : M3) : appZ m (V3.mk 0 0 0) = V3.mk 0 0 0 := by simp [appZ]
theorem sca_add (n : Int) (a b : V3) : scaV n (addV a b) = addV (scaV n a) (scaV n b) := by
  simp only [scaV, addV, Int.mul_add]
theorem sca_sca (n k : Int) (a : V3) : scaV n (scaV k a) = scaV (n * k) a := by
  simp only [scaV, Int.mul_assoc]
theorem Op3.ext' {a b : Op3} (h1 : a.R = b.R) (h2 : a.T = b.T) : a = b := by
  cases a; cases b; simp only at h1 h2; rw [h1, h2]

/-! ### Maps -/
theorem mulO_assoc (a b c : Op3) : mulO (mulO a b) c = mulO a (mulO b c) := by
  refine Op3.ext' (mulZ_assoc _ _ _) ?_
  show eqV 24 (addV (appZ (mulZ a.R b.R) c.T) (modV 24 (addV (appZ a.R b.T) a.T))) (addV (appZ a.R (modV 24 (addV (appZ b.R c.T) b.T))) a.T)
  rw [app_mul]
  refine (eqV_add (eqV.refl _ _) (eqV_mod _ _)).trans ?_
  refine eqV.trans ?_ (eqV_add (eqV_app a.R (eqV_mod 24 (addV (appZ b.R c.T) b.T))) (eqV.refl _ _)).symm
  rw [app_add, addV_assoc]
  exact eqV.refl _ _
theorem mulO_one {o : Op3} (h : inT o.T = true) : mulO o oneO = o ∧ mulO oneO o = o := by
  constructor
  · refine Op3.ext' (mulZ_one _).2 ?_
    show modV 24 (addV (appZ o.R (V3.mk 0 0 0)) o.T) = o.T
    rw [app_zero, addV_comm, addV_zero, modV_id h]
  · refine Op3.ext' (mulZ_one _).1 ?_
    show modV 24 (addV (appZ (oneZ 1) o.T) (V3.mk 0 0 0)) = o.T
    rw [app_one, addV_zero, modV_id h]
theorem Frm.mul {a b : Op3} (ha : Frm a) (hb : Frm b) (h : errM (mulZ a.R b.R) = 0) : Frm (mulO a b) := by
  refine ⟨inT_mod _, okM_B (errM_ok.1 h), ?_⟩
  show detZ (mulZ a.R b.R) = 1 ∨ detZ (mulZ a.R b.R) = -1
  rw [det_mul]
  rcases ha.d with e | e <;> rcases hb.d with e' | e' <;> rw [e, e'] <;> decide
theorem Frm.err {a : Op3} (h : Frm a) : errO a = 0 := errO_ok.2 h
theorem errL_frm {a b : Op3} (ha : Frm a) (hb : Frm b) : errL [a, b] = 0 := errL_zero.2 fun o ho => by
  rcases List.mem_cons.1 ho with rfl | ho
  · exact ha.err
  · obtain rfl := List.mem_singleton.1 ho; exact hb.err
theorem frm_errL {a b : Op3} (h : errL [a, b] = 0) : Frm a ∧ Frm b :=
  ⟨errO_ok.1 (errL_zero.1 h a (List.mem_cons_self ..)), errO_ok.1 (errL_zero.1 h b (List.mem_cons_of_mem _ (List.mem_cons_self ..)))⟩
theorem mulE_frm {a b : Op3} (ha : Frm a) (hb : Frm b) : mulE a b = errM (mulZ a.R b.R) := by
  unfold mulE; rw [if_pos (errL_frm ha hb)]
theorem errL_vals (l : List Op3) : errL l = 0 ∨ errL l = 3 ∨ errL l = 4 := by
  unfold errL
  split
  · exact .inr (.inl rfl)
  · split
    · exact .inr (.inr rfl)
    · exact .inl rfl
theorem mulE_vals (a b : Op3) : mulE a b = 0 ∨ mulE a b = 3 ∨ mulE a b = 4 := by
  unfold mulE; split
  · rcases errM_cases (mulZ a.R b.R) with h | h
    · exact .inl h
    · exact .inr (.inr h)
  · exact errL_vals _
theorem mulE_ok {a b : Op3} (h : mulE a b = 0) : Frm a ∧ Frm b ∧ errM (mulZ a.R b.R) = 0 := by
  unfold mulE at h
  split at h
  · rename_i h1
    obtain ⟨ha, hb⟩ := frm_errL h1
    exact ⟨ha, hb, h⟩
  · exact absurd h (by assumption)
theorem oneO_frm : Frm oneO := ⟨by decide, by refine ⟨?_, ?_, ?_, ?_, ?_, ?_, ?_, ?_, ?_⟩ <;> decide, .inl (by decide)⟩
theorem invZ_B {m : M3} (h : Bnd 1000 m) (hd : detZ m = 1 ∨ detZ m = -1) : Bnd 2000000 (invZ m) := sca_B (adjZ_B h) hd
theorem Frm.inv {o : Op3} (h : Frm o) (he : errM (invZ o.R) = 0) : Frm (invO o) := by
  refine ⟨inT_mod _, okM_B (errM_ok.1 he), ?_⟩
  show detZ (invZ o.R) = 1 ∨ detZ (invZ o.R) = -1
  rw [det_sca_adj h.d]; exact h.d
theorem inv_mul {o : Op3} (h : Frm o) : mulO o (invO o) = oneO ∧ mulO (invO o) o = oneO := by
  constructor
  · refine Op3.ext' (inv_r h.d) ?_
    show eqV 24 (addV (appZ o.R (modV 24 (negV (appZ (invZ o.R) o.T)))) o.T) (V3.mk 0 0 0)
    refine (eqV_add (eqV_app o.R (eqV_mod _ _)) (eqV.refl _ _)).trans ?_
    rw [app_neg, ← app_mul, inv_r h.d, app_one, addV_comm, addV_neg]
    exact eqV.refl _ _
  · refine Op3.ext' (inv_l h.d) ?_
    show eqV 24 (addV (appZ (invZ o.R) o.T) (modV 24 (negV (appZ (invZ o.R) o.T)))) (V3.mk 0 0 0)
    refine (eqV_add (eqV.refl _ _) (eqV_mod _ _)).trans ?_
    rw [addV_neg]
    exact eqV.refl _ _
/-- What undoes on either side is one. -/
theorem undo_unique {a b c : Op3} (hb : inT b.T = true) (hc : inT c.T = true) (h1 : mulO b a = oneO) (h2 : mulO a c = oneO) : b = c := by
  have := mulO_assoc b a c
  rw [h1, h2, (mulO_one hb).1, (mulO_one hc).2] at this
  exact this.symm
theorem inv_inv {o : Op3} (h : Frm o) (he : errM (invZ o.R) = 0) : invO (invO o) = o := by
  have hq := h.inv he
  exact undo_unique (inT_mod _) h.T (inv_mul hq).2 (inv_mul h).2
theorem invE_frm {o : Op3} (h : Frm o) : invE o = errM (invZ o.R) := by
  unfold invE; rw [if_pos h.err]
theorem invE_ok {o : Op3} (h : invE o = 0) : Frm o ∧ errM (invZ o.R) = 0 := by
  unfold invE at h
  split at h
  · exact ⟨errO_ok.1 (by assumption), h⟩
  · exact absurd h (by assumption)
/-! ### Places -/
theorem modV_id' {m : Int} {x : V3} (h : (0 ≤ x.x ∧ x.x < m) ∧ (0 ≤ x.y ∧ x.y < m) ∧ (0 ≤ x.z ∧ x.z < m)) : modV m x = x := by
  obtain ⟨⟨a, b⟩, ⟨c, d⟩, e, f⟩ := h
  cases x
  simp only [modV, V3.mk.injEq]
  exact ⟨Int.emod_eq_of_lt a b, Int.emod_eq_of_lt c d, Int.emod_eq_of_lt e f⟩
theorem frmP_mod {m : Int} (h : rgtM m = true) (v : V3) : frmP (Pt.mk m (modV m v)) = true := by
  have hm := (rgt_in h).1
  rw [frmP_iff]
  refine ⟨rgt_iff.1 h, ⟨Int.emod_nonneg _ (by omega), Int.emod_lt_of_pos _ (by omega)⟩, ⟨Int.emod_nonneg _ (by omega), Int.emod_lt_of_pos _ (by omega)⟩, Int.emod_nonneg _ (by omega), Int.emod_lt_of_pos _ (by omega)⟩
theorem frmP_rgt {p : Pt} (h : frmP p = true) : rgtM p.M = true := rgt_iff.2 (frmP_iff.1 h).1
theorem frm_appX (o : Op3) {p : Pt} (h : frmP p = true) : frmP (appX o p) = true := frmP_mod (frmP_rgt h) _
/-- A translation's 24ths in M-ths: modulo 24 is modulo M. -/
theorem sca24 {M : Int} (h : rgtM M = true) {a b : V3} (hab : eqV 24 a b) : eqV M (scaV (M / 24) a) (scaV (M / 24) b) := by
  rw [eqV_iff] at *
  obtain ⟨h1, h2, h3⟩ := hab
  simp only [scaV]
  have key : ∀ x y : Int, x % 24 = y % 24 → M / 24 * x % M = M / 24 * y % M := fun x y e => by
    rcases rgt_iff.1 h with rfl | rfl | rfl | rfl <;> simp only [Int.reduceDiv] <;> omega
  exact ⟨key _ _ h1, key _ _ h2, key _ _ h3⟩
theorem appX_mul (a b : Op3) {p : Pt} (h : frmP p = true) : appX (mulO a b) p = appX a (appX b p) := by
  have hr := frmP_rgt h
  show Pt.mk p.M _ = Pt.mk p.M _
  congr 1
  show eqV p.M (addV (appZ (mulZ a.R b.R) p.X) (scaV (p.M / 24) (modV 24 (addV (appZ a.R b.T) a.T)))) (addV (appZ a.R (modV p.M (addV (appZ b.R p.X) (scaV (p.M / 24) b.T)))) (scaV (p.M / 24) a.T))
  refine (eqV_add (eqV.refl _ _) (sca24 hr (eqV_mod _ _))).trans ?_
  refine eqV.trans ?_ (eqV_add (eqV_app a.R (eqV_mod p.M (addV (appZ b.R p.X) (scaV (p.M / 24) b.T)))) (eqV.refl _ _)).symm
  rw [app_mul, app_add, app_sca, sca_add, addV_assoc]
  exact eqV.refl _ _
theorem appX_one {p : Pt} (h : frmP p = true) : appX oneO p = p := by
  obtain ⟨_, h2⟩ := frmP_iff.1 h
  show Pt.mk p.M (modV p.M (addV (appZ (oneZ 1) p.X) (scaV (p.M / 24) (V3.mk 0 0 0)))) = p
  have e : scaV (p.M / 24) (V3.mk 0 0 0) = V3.mk 0 0 0 := by simp [scaV]
  rw [e, app_one, addV_zero, modV_id' h2]
end Go.Fx
