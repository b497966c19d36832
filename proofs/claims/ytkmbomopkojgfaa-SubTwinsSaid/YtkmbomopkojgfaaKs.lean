/-
  Maps as a group; turns told from elsewhere.
-/
import Derived.Test.YtkmbomopkojgfaaKq
set_option linter.unusedSimpArgs false
set_option linter.unusedVariables false
set_option linter.unusedSectionVars false
namespace Go.Fx
open Go

instance decOp : DecidableEq Op3 := fun a b => decidable_of_iff (cmpO a b = 0) cmpO_zero
theorem eqOc (a b : Op3) : ((decide (a.R.xx = b.R.xx)) && ((decide (a.R.xy = b.R.xy)) && ((decide (a.R.xz = b.R.xz)) && ((decide (a.R.yx = b.R.yx)) && ((decide (a.R.yy = b.R.yy)) && ((decide (a.R.yz = b.R.yz)) && ((decide (a.R.zx = b.R.zx)) && ((decide (a.R.zy = b.R.zy)) && ((decide (a.R.zz = b.R.zz)) && ((decide (a.T.x = b.T.x)) && ((decide (a.T.y = b.T.y)) && ((decide (a.T.z = b.T.z)) && true)))))))))))) = decide (a = b) := by
  rw [Bool.eq_iff_iff]
  simp only [Bool.and_eq_true, decide_eq_true_eq, and_true]
  constructor
  · rintro ⟨h1, h2, h3, h4, h5, h6, h7, h8, h9, h10, h11, h12⟩
    exact opRow_inj (a := a) (b := b) (by simp only [Op3.row, h1, h2, h3, h4, h5, h6, h7, h8, h9, h10, h11, h12])
  · rintro rfl
    exact ⟨rfl, rfl, rfl, rfl, rfl, rfl, rfl, rfl, rfl, rfl, rfl, rfl⟩
theorem nil_frm {o : Op3} : nilE o = true ↔ Frm o := by
  unfold nilE; rw [decide_eq_true_eq, errL_one, errO_ok]
theorem Frm.errR {o : Op3} (h : Frm o) : errM o.R = 0 := errM_B (by decide) h.B
theorem grp_one {a : Op3} (h : Frm a) : mulE a oneO = 0 ∧ mulE oneO a = 0 ∧ mulO a oneO = a ∧ mulO oneO a = a := by
  obtain ⟨h1, h2⟩ := mulO_one h.T
  refine ⟨?_, ?_, h1, h2⟩
  · rw [mulE_frm h oneO_frm]; show errM (mulZ a.R (oneZ 1)) = 0; rw [(mulZ_one _).2, h.errR]
  · rw [mulE_frm oneO_frm h]; show errM (mulZ (oneZ 1) a.R) = 0; rw [(mulZ_one _).1, h.errR]
theorem grp_assoc {a b c : Op3} (h1 : mulE a b = 0) (h2 : mulE b c = 0) : mulE (mulO a b) c = mulE a (mulO b c) := by
  obtain ⟨ha, hb, e1⟩ := mulE_ok h1
  obtain ⟨_, hc, e2⟩ := mulE_ok h2
  rw [mulE_frm (ha.mul hb e1) hc, mulE_frm ha (hb.mul hc e2)]
  show errM (mulZ (mulZ a.R b.R) c.R) = errM (mulZ a.R (mulZ b.R c.R))
  rw [mulZ_assoc]
theorem grp_inv {a : Op3} (h : invE a = 0) : Frm (invO a) ∧ mulE a (invO a) = 0 ∧ mulE (invO a) a = 0 ∧ invE (invO a) = 0 ∧ mulO a (invO a) = oneO ∧ mulO (invO a) a = oneO ∧ invO (invO a) = a := by
  obtain ⟨ha, he⟩ := invE_ok h
  obtain ⟨h1, h2⟩ := inv_mul ha
  have hq := ha.inv he
  have hb := inv_inv ha he
  have o1 : errM (oneZ 1) = 0 := by decide
  refine ⟨hq, ?_, ?_, ?_, h1, h2, hb⟩
  · rw [mulE_frm ha hq]; show errM (mulO a (invO a)).R = 0; rw [h1]; exact o1
  · rw [mulE_frm hq ha]; show errM (mulO (invO a) a).R = 0; rw [h2]; exact o1
  · rw [invE_frm hq]; show errM (invO (invO a)).R = 0; rw [hb]; exact ha.errR
theorem grp_app {a b : Op3} {p : Pt} (h : mulE a b = 0) (hp : frmP p = true) : appE (mulO a b) p = 0 ∧ appE b p = 0 ∧ appE a (appP b p) = 0 ∧ appP (mulO a b) p = appP a (appP b p) := by
  obtain ⟨ha, hb, e1⟩ := mulE_ok h
  have hc := ha.mul hb e1
  have q1 : appE (mulO a b) p = 0 := by unfold appE; rw [if_pos hp, hc.err]
  have q2 : appE b p = 0 := by unfold appE; rw [if_pos hp, hb.err]
  have e2 : appP b p = appX b p := by unfold appP; rw [if_pos q2]
  have q3 : appE a (appP b p) = 0 := by unfold appE; rw [e2, if_pos (frm_appX b hp), ha.err]
  refine ⟨q1, q2, q3, ?_⟩
  have e3 : appP (mulO a b) p = appX (mulO a b) p := by unfold appP; rw [if_pos q1]
  have e4 : ∀ q, appE a q = 0 → appP a q = appX a q := fun q h => by unfold appP; rw [if_pos h]
  rw [e4 _ q3, e3, e2, appX_mul a b hp]

/-! ### Orders of what undoes, of what is told from elsewhere, of what is mirrored -/
theorem rord_zero (m : M3) : rordX m = 0 ↔ mulZ m m ≠ oneZ 1 ∧ rordC (trcZ m) (sZ m) (detZ m) = 0 := by
  unfold rordX
  by_cases h1 : m = oneZ 1
  · rw [if_pos (eqM_iff.2 h1)]
    constructor
    · intro h; exact absurd h (by decide)
    · rintro ⟨h, _⟩; exact absurd (by rw [h1]; exact (mulZ_one _).1) h
  · rw [if_neg (fun h => h1 (eqM_iff.1 h))]
    by_cases h2 : mulZ m m = oneZ 1
    · rw [if_pos (eqM_iff.2 h2)]
      exact ⟨fun h => absurd h (by decide), fun h => absurd h2 h.1⟩
    · rw [if_neg (fun h => h2 (eqM_iff.1 h))]
      exact ⟨fun h => ⟨h2, h⟩, fun h => h.2⟩
theorem neg_rordC {t s d : Int} (hd : d = 1 ∨ d = -1) : rordC (-t) s (-d) = 0 ↔ rordC t s d = 0 := by
  unfold rordC
  rcases hd with rfl | rfl <;> (repeat' split) <;> omega
theorem ng_tsd (m : M3) : trcZ (scaZ (-1) m) = -trcZ m ∧ sZ (scaZ (-1) m) = sZ m ∧ detZ (scaZ (-1) m) = -detZ m ∧ mulZ (scaZ (-1) m) (scaZ (-1) m) = mulZ m m := by
  refine ⟨?_, ?_, ?_, ?_⟩
  · simp only [trcZ, scaZ]; omega
  · simp only [sZ, trcZ, adjZ, scaZ]; grind
  · simp only [detZ, scaZ]; grind
  · rw [sca_l, sca_r]; simp only [scaZ, mulZ, M3.mk.injEq]; refine ⟨?_, ?_, ?_, ?_, ?_, ?_, ?_, ?_, ?_⟩ <;> omega
theorem sca_1 (m : M3) : scaZ 1 m = m := by
  simp only [scaZ, Int.one_mul, Int.mul_one]
theorem det_rord {m : M3} (hd : detZ m = 1 ∨ detZ m = -1) : rordX (scaZ (detZ m) m) = 0 ↔ rordX m = 0 := by
  rcases hd with h | h
  · rw [h, sca_1]
  · rw [h, rord_zero, rord_zero]
    obtain ⟨e1, e2, e3, e4⟩ := ng_tsd m
    rw [e1, e2, e3, e4, neg_rordC (.inr h)]
theorem det_det {m : M3} (hd : detZ m = 1 ∨ detZ m = -1) : detZ (scaZ (detZ m) m) = 1 := by
  rcases hd with h | h
  · rw [h, sca_1, h]
  · rw [h, (ng_tsd m).2.2.1, h]; rfl
theorem det_uni {m : M3} (h : Bnd 1000 m) (hd : detZ m = 1 ∨ detZ m = -1) : uniE (scaZ (detZ m) m) = 0 := uniE_of (sca_B h hd) (.inl (det_det hd))
theorem kin_vals {o : Op3} (h : Frm o) : kinE o = (if rordX (scaZ (detZ o.R) o.R) = 0 then 9 else 0) ∧ (kinE o = 0 → kinZ o = detZ o.R * rordX (scaZ (detZ o.R) o.R)) := by
  obtain ⟨v1, v2⟩ := ord_vals (det_uni h.B h.d)
  refine ⟨by unfold kinE; rw [if_pos h.err, v2], fun e => by unfold kinZ; rw [if_pos e, v1]⟩
theorem oro_vals {o : Op3} (h : Frm o) : oroE o = if rordX o.R = 0 then 9 else 0 := by
  rw [oroE_frm h, (ord_vals (uniE_of h.B h.d)).2]
theorem ot_frm {o : Op3} (h : oroE o = 0 ∨ oroE o = 9) : Frm o := by
  rcases errO_034 o with e | e | e
  · exact errO_ok.1 e
  · unfold oroE at h; rw [e, if_neg (by decide)] at h; omega
  · unfold oroE at h; rw [e, if_neg (by decide)] at h; omega
theorem ot_nine {o : Op3} (h : oroE o = 9) : kinE o = 9 := by
  have hf := ot_frm (.inr h)
  rw [oro_vals hf] at h
  have hr : rordX o.R = 0 := by split at h <;> first | assumption | omega
  rw [(kin_vals hf).1, if_pos ((det_rord hf.d).2 hr)]
theorem ot_kin {o : Op3} (h : oroE o = 0) : kinE o = 0 := by
  have hf := ot_frm (.inl h)
  rw [oro_vals hf] at h
  have hr : rordX o.R ≠ 0 := by split at h <;> first | assumption | omega
  rw [(kin_vals hf).1, if_neg fun e => hr ((det_rord hf.d).1 e)]
theorem ot_none {o : Op3} (h : oroE o ≠ 0) : oroZ o = 0 := by unfold oroZ; rw [if_neg h]
theorem ot_isOrd {o : Op3} (h : oroE o = 0) : ∃ N : Nat, oroZ o = N ∧ N ≤ 144 ∧ isOrd o N := ord_isOrd (ot_frm (.inl h)) (by rw [← oroE_frm (ot_frm (.inl h))]; exact h)
/-- Two maps of one order of turns. -/
theorem ot_same {a b : Op3} (ha : Frm a) (hb : Frm b) (he : oroE a = 0) (h1 : rordX b.R = rordX a.R) (hd : detZ b.R = detZ a.R) (h2 : rordX (scaZ (detZ a.R) b.R) = rordX (scaZ (detZ a.R) a.R)) (hi : ∀ n, isOrd a n → isOrd b n) :
    oroZ b = oroZ a ∧ oroE b = 0 ∧ kinZ b = kinZ a ∧ kinE b = 0 := by
  have e1 : oroE b = 0 := by rw [oro_vals hb, h1, ← oro_vals ha]; exact he
  have k1 := ot_kin he
  have k2 := ot_kin e1
  refine ⟨?_, e1, ?_, k2⟩
  · obtain ⟨N, z1, _, z2⟩ := ot_isOrd he
    obtain ⟨M, y1, _, y2⟩ := ot_isOrd e1
    rw [z1, y1, isOrd_unique y2 (hi N z2)]
  · rw [(kin_vals ha).2 k1, (kin_vals hb).2 k2, hd, h2]
theorem ot_conj {o m : Op3} (he : oroE o = 0) (hm : invE m = 0) (h1 : mulE m o = 0) (h2 : mulE (mulO m o) (invO m) = 0) :
    oroZ (mulO (mulO m o) (invO m)) = oroZ o ∧ oroE (mulO (mulO m o) (invO m)) = 0 ∧ kinZ (mulO (mulO m o) (invO m)) = kinZ o ∧ kinE (mulO (mulO m o) (invO m)) = 0 := by
  obtain ⟨fm, fo, e1⟩ := mulE_ok h1
  obtain ⟨fmo, fu, e2⟩ := mulE_ok h2
  obtain ⟨_, _, _, _, i1, i2, _⟩ := grp_inv hm
  have r1 : mulZ m.R (invO m).R = oneZ 1 := congrArg Op3.R i1
  have r2 : mulZ (invO m).R m.R = oneZ 1 := congrArg Op3.R i2
  obtain ⟨_, _, c3⟩ := conj_tsd (M := o.R) r2 r1
  refine ot_same fo (fmo.mul fu e2) he (conj_ord r2 r1) c3 ?_ (fun n hn => isOrd_conj fm.T fu.T i1 i2 hn)
  show rordX (scaZ (detZ o.R) (mulZ (mulZ m.R o.R) (invO m).R)) = _
  rw [← sca_l, ← sca_r]
  exact conj_ord r2 r1
theorem inv_tsd {m : M3} (hd : detZ m = 1 ∨ detZ m = -1) : trcZ (invZ m) = detZ m * sZ m ∧ sZ (invZ m) = detZ m * trcZ m := by
  have h1 : ∀ m : M3, trcZ (adjZ (adjZ m)) = detZ m * trcZ m := fun m => by
    simp only [trcZ, adjZ, detZ]; grind
  refine ⟨?_, ?_⟩
  · unfold invZ sZ
    generalize adjZ m = a
    simp only [trcZ, scaZ]; grind
  · have h2 := h1 m
    unfold invZ
    have h3 : ∀ (d : Int) (a : M3), d * d = 1 → sZ (scaZ d a) = sZ a := fun d a h => by
      simp only [sZ, trcZ, adjZ, scaZ]; grind
    rw [h3 _ _ (unit_sq hd)]; exact h2
theorem inv_rordC {t s d : Int} (hd : d = 1 ∨ d = -1) : rordC (d * s) (d * t) d = rordC t s d := by
  unfold rordC
  rcases hd with rfl | rfl <;> (repeat' split) <;> omega
theorem inv_rord {m : M3} (hd : detZ m = 1 ∨ detZ m = -1) : rordX (invZ m) = rordX m := by
  obtain ⟨e1, e2⟩ := inv_tsd hd
  have q1 := inv_r hd
  have q2 := inv_l hd
  have e3 : detZ (invZ m) = detZ m := det_sca_adj hd
  have k1 : ∀ a b : M3, mulZ a b = oneZ 1 → a = oneZ 1 → b = oneZ 1 := fun a b h e => by rw [e, (mulZ_one b).1] at h; exact h
  have e4 : eqM (invZ m) (oneZ 1) = eqM m (oneZ 1) := by
    rw [Bool.eq_iff_iff, eqM_iff, eqM_iff]; exact ⟨k1 _ _ q2, k1 _ _ q1⟩
  have q3 : mulZ (mulZ m m) (mulZ (invZ m) (invZ m)) = oneZ 1 := by
    rw [mulZ_assoc, ← mulZ_assoc m (invZ m), q1, (mulZ_one _).1, q1]
  have q4 : mulZ (mulZ (invZ m) (invZ m)) (mulZ m m) = oneZ 1 := by
    rw [mulZ_assoc, ← mulZ_assoc (invZ m) m, q2, (mulZ_one _).1, q2]
  have e5 : eqM (mulZ (invZ m) (invZ m)) (oneZ 1) = eqM (mulZ m m) (oneZ 1) := by
    rw [Bool.eq_iff_iff, eqM_iff, eqM_iff]; exact ⟨k1 _ _ q4, k1 _ _ q3⟩
  unfold rordX
  rw [e4, e5, e1, e2, e3, inv_rordC hd]
theorem sca_inv {m : M3} (hd : detZ m = 1 ∨ detZ m = -1) : scaZ (detZ m) (invZ m) = invZ (scaZ (detZ m) m) := by
  have h1 := det_det hd
  show scaZ (detZ m) (scaZ (detZ m) (adjZ m)) = scaZ (detZ (scaZ (detZ m) m)) (adjZ (scaZ (detZ m) m))
  rw [h1, sca_1]
  have h := unit_sq hd
  generalize detZ m = d at h
  simp only [adjZ, scaZ, M3.mk.injEq]
  refine ⟨?_, ?_, ?_, ?_, ?_, ?_, ?_, ?_, ?_⟩ <;> grind
theorem ot_inv {o : Op3} (he : oroE o = 0) (hi : invE o = 0) :
    oroZ (invO o) = oroZ o ∧ oroE (invO o) = 0 ∧ kinZ (invO o) = kinZ o ∧ kinE (invO o) = 0 := by
  obtain ⟨fo, _⟩ := invE_ok hi
  obtain ⟨fq, _, _, _, i1, i2, _⟩ := grp_inv hi
  refine ot_same fo fq he (inv_rord fo.d) (det_sca_adj fo.d) ?_ (fun n hn => isOrd_inv i1 i2 hn)
  show rordX (scaZ (detZ o.R) (invZ o.R)) = _
  rw [sca_inv fo.d, inv_rord (.inl (det_det fo.d))]

/-! ### As often as the order says -/
def otInv (w : Op3) (n i : Int) (p : Op3) : Prop := oroE w = 0 ∧ n = oroZ w ∧ 1 ≤ i ∧ i ≤ n + 1 ∧ Frm p ∧ p = opw w (i - 1).toNat
theorem ot_range {o : Op3} (h : oroE o = 0) : 1 ≤ oroZ o ∧ oroZ o ≤ 144 := by
  obtain ⟨N, z1, z2, z3, _⟩ := ot_isOrd h
  omega
theorem ot_init {o : Op3} (h : oroE o = 0) : otInv o (oroZ o) 1 oneO :=
  ⟨h, rfl, by omega, by have := ot_range h; omega, oneO_frm, rfl⟩
theorem ot_over {w p : Op3} {n i : Int} (h : otInv w n i p) (he : mulE w p ≠ 0) : mulE w p = 4 := by
  obtain ⟨h1, _, _, _, h5, _⟩ := h
  rw [mulE_frm (ot_frm (.inl h1)) h5] at he ⊢
  rcases errM_cases (mulZ w.R p.R) with e | e
  · exact absurd e he
  · exact e
theorem ot_next {w p : Op3} {n i : Int} (h : otInv w n i p) (hi : i ≤ n) (he : mulE w p = 0) :
    (decide (mulO w p = oneO) == decide (i = n)) = true ∧ otInv w n (w64 (i + 1)) (mulO w p) ∧ ((decide (0 ≤ subMu 145 (w64 (i + 1)))) = true ∧ (decide (subMu 145 (w64 (i + 1)) < subMu 145 i)) = true) := by
  obtain ⟨h1, h2, h3, h4, h5, h6⟩ := h
  obtain ⟨fw, fp, e1⟩ := mulE_ok he
  have hr := ot_range h1
  have hw : w64 (i + 1) = i + 1 := w64_id (by omega) (by omega)
  have hp : mulO w p = opw w i.toNat := by
    rw [h6, show i.toNat = (i - 1).toNat + 1 by omega]; rfl
  refine ⟨?_, ⟨h1, h2, by rw [hw]; omega, by rw [hw]; omega, fw.mul fp e1, ?_⟩, ?_⟩
  · obtain ⟨N, z1, _, y1, y2, y3⟩ := ot_isOrd h1
    rw [beq_iff_eq, Bool.eq_iff_iff, decide_eq_true_eq, decide_eq_true_eq, hp]
    constructor
    · intro e
      by_cases hc : i = n
      · exact hc
      · exact absurd e (y3 i.toNat (by omega) (by omega))
    · intro e
      rw [show i.toNat = N by omega]; exact y2
  · rw [hw, hp, show (i + 1 - 1).toNat = i.toNat by omega]
  · rw [hw]; exact ⟨decide_eq_true (by unfold subMu; omega), decide_eq_true (by unfold subMu; omega)⟩
end Go.Fx
