/-
  Kinds by traces are kinds by orders; orders by greatest common divisors; one order of maps.
-/
import Derived.Test.YthljaepanhdmiaaKp
namespace Go.Fx
open Go

def Op3.row (o : Op3) : List Int := [o.R.xx, o.R.xy, o.R.xz, o.R.yx, o.R.yy, o.R.yz, o.R.zx, o.R.zy, o.R.zz, o.T.x, o.T.y, o.T.z]
theorem cmpE_key (x y k : Int) : cmpE x y k = if cmpE x y 0 = 0 then k else cmpE x y 0 := by
  unfold cmpE; by_cases h : x < y <;> by_cases h' : y < x <;> simp [h, h']
theorem lexL_app : ∀ {a b c d : List Int}, a.length = b.length → lexL (a ++ c) (b ++ d) = if lexL a b = 0 then lexL c d else lexL a b
  | [], [], _, _, _ => rfl
  | x :: r, y :: s, c, d, h => by
    have ih := lexL_app (a := r) (b := s) (c := c) (d := d) (by simpa using h)
    simp only [List.cons_append, lexL]
    rw [ih]
    unfold cmpE
    by_cases h1 : x < y
    · simp [h1]
    · by_cases h2 : y < x
      · simp [h1, h2]
      · simp [h1, h2]
theorem cmpO_lex (a b : Op3) : cmpO a b = lexL a.row b.row := by
  have := lexL_app (a := a.R.row) (b := b.R.row) (c := [a.T.x, a.T.y, a.T.z]) (d := [b.T.x, b.T.y, b.T.z]) rfl
  exact this.symm
theorem opRow_inj {a b : Op3} (h : a.row = b.row) : a = b := by
  obtain ⟨⟨a1, a2, a3, a4, a5, a6, a7, a8, a9⟩, ⟨a10, a11, a12⟩⟩ := a
  obtain ⟨⟨b1, b2, b3, b4, b5, b6, b7, b8, b9⟩, ⟨b10, b11, b12⟩⟩ := b
  simp only [Op3.row, List.cons.injEq, and_true] at h
  obtain ⟨rfl, rfl, rfl, rfl, rfl, rfl, rfl, rfl, rfl, rfl, rfl, rfl⟩ := h
  rfl
theorem cmpO_zero {a b : Op3} : cmpO a b = 0 ↔ a = b := by
  rw [cmpO_lex, lexL_zero (a := a.row) (b := b.row) rfl]
  exact ⟨opRow_inj, fun h => by rw [h]⟩
theorem cmpO_anti (a b : Op3) : cmpO b a = -cmpO a b := by rw [cmpO_lex, cmpO_lex]; exact lexL_anti _ _
theorem cmpO_range (a b : Op3) : cmpO a b = -1 ∨ cmpO a b = 0 ∨ cmpO a b = 1 := by rw [cmpO_lex]; exact lexL_range _ _
theorem cmpO_trans (a b c : Op3) : (cmpO a b ≤ 0 → cmpO b c ≤ 0 → cmpO a c ≤ 0) ∧ (cmpO a b < 0 → cmpO b c ≤ 0 → cmpO a c < 0) ∧ (cmpO a b ≤ 0 → cmpO b c < 0 → cmpO a c < 0) := by
  rw [cmpO_lex, cmpO_lex, cmpO_lex]; exact lexL_trans (a := a.row) (b := b.row) (c := c.row) rfl rfl

/-! ### Sums of turned translations -/
theorem atT_in {o : Op3} (h : inT o.T = true) : ∀ k, inT (atT o k) = true
  | 0 => h
  | _ + 1 => inT_mod _
theorem sum_at (o : Op3) : ∀ k, sumT o (k + 1) = modV 24 (addV (sumT o k) (atT o k))
  | 0 => by
    show modV 24 (addV (modV 24 (appZ o.R (V3.mk 0 0 0))) o.T) = modV 24 (addV (V3.mk 0 0 0) o.T)
    rw [app_zero]; rfl
  | k + 1 => by
    show eqV 24 (addV (modV 24 (appZ o.R (sumT o (k + 1)))) o.T) (addV (sumT o (k + 1)) (atT o (k + 1)))
    have ih := sum_at o k
    have e1 : eqV 24 (appZ o.R (sumT o (k + 1))) (addV (appZ o.R (sumT o k)) (appZ o.R (atT o k))) := by
      rw [ih, ← app_add]
      exact eqV_app _ (eqV_mod _ _)
    have e2 : eqV 24 (sumT o (k + 1)) (addV (appZ o.R (sumT o k)) o.T) := by
      show eqV 24 (modV 24 (addV (modV 24 (appZ o.R (sumT o k))) o.T)) _
      exact (eqV_mod _ _).trans (eqV_add (eqV_mod _ _) (eqV.refl _ _))
    refine (eqV_add (eqV_mod _ _) (eqV.refl _ _)).trans ?_
    refine (eqV_add e1 (eqV.refl _ _)).trans ?_
    refine eqV.trans ?_ (eqV_add e2 (eqV_mod 24 (appZ o.R (atT o k)))).symm
    rw [addV_assoc, addV_assoc, addV_comm o.T]
    exact eqV.refl _ _
theorem bv24 {t : V3} (h : inT t = true) : BndV 24 t := inT_B h
theorem do_next {o : Op3} (hF : Frm o) {n k : Int} (hn : n ≤ 1000000) {s t : V3} (hI : doInv o n k s t) (hk : k < n) {z y : V3} (hz : z = modV 24 (wV (addV s t))) (hy : y = modV 24 (wV (appZ o.R t))) :
    doInv o n (w64 (k + 1)) z y ∧ ((decide (0 ≤ subMu n (w64 (k + 1)))) = true ∧ (decide (subMu n (w64 (k + 1)) < subMu n k)) = true) := by
  obtain ⟨i1, i2, i3, i4⟩ := hI
  have w1 : w64 (k + 1) = k + 1 := w64_id (by omega) (by omega)
  have hs : inT s = true := by rw [i3]; exact sumT_in o _
  have ht : inT t = true := by rw [i4]; exact atT_in hF.T _
  rw [w1]
  refine ⟨⟨by omega, by omega, ?_, ?_⟩, decide_eq_true (by unfold subMu; omega), decide_eq_true (by unfold subMu; omega)⟩
  · rw [hz, wV_id (by decide) (addB (bv24 hs) (bv24 ht)), show (k + 1).toNat = k.toNat + 1 by omega, sum_at, i3, i4]
  · rw [hy, wV_id (by decide) (appB hF.B (bv24 ht)), show (k + 1).toNat = k.toNat + 1 by omega, i4]; rfl

/-! ### Kinds -/
theorem rotC_rord {m : M3} (hd : detZ m = 1) : (if trcZ m = sZ m then rotC (trcZ m) (eqM m (oneZ 1)) (eqM (mulZ m m) (oneZ 1)) else 0) = rordX m := by
  unfold rordX
  by_cases h1 : m = oneZ 1
  · rw [if_pos (eqM_iff.2 h1), eqM_iff.2 h1]
    have a : trcZ m = 3 := by rw [h1]; decide
    have b : sZ m = 3 := by rw [h1]; decide
    rw [a, b]; rfl
  have x1 : eqM m (oneZ 1) = false := by rw [Bool.eq_false_iff]; exact fun e => h1 (eqM_iff.1 e)
  rw [x1]
  by_cases h2 : mulZ m m = oneZ 1
  · rw [if_neg (show ¬ (false = true) by decide), eqM_iff.2 h2]
    have ht : trcZ m = -1 := by
      rcases scalar_case h2 h1 (.inl hd) with h | ⟨h, _⟩
      · rw [hd] at h; omega
      · rw [hd] at h; exact absurd h (by decide)
    have hs : sZ m = -1 := by
      have := trc_lin 1 0 0 m
      have e : linZ 1 0 0 m = mulZ m m := by cases e : mulZ m m; simp [linZ, e]
      rw [e, h2, ht] at this
      have e3 : trcZ (oneZ 1) = 3 := by decide
      omega
    rw [ht, hs]; rfl
  have x2 : eqM (mulZ m m) (oneZ 1) = false := by rw [Bool.eq_false_iff]; exact fun e => h2 (eqM_iff.1 e)
  rw [x2, if_neg (show ¬ (false = true) by decide), if_neg (show ¬ (false = true) by decide)]
  unfold rotC rordC
  rw [hd]
  by_cases hts : trcZ m = sZ m
  · rw [if_pos hts, ← hts]
    generalize trcZ m = t
    by_cases a3 : t = 3
    · subst a3; decide
    by_cases am : t = -1
    · subst am; decide
    by_cases a0 : t = 0
    · subst a0; decide
    by_cases a1 : t = 1
    · subst a1; decide
    by_cases a2 : t = 2
    · subst a2; decide
    simp [a3, am, a0, a1, a2]
  · rw [if_neg hts]
    generalize trcZ m = t at hts ⊢
    generalize sZ m = s at hts ⊢
    rw [if_neg (by omega), if_neg (by omega), if_neg (by omega)]
theorem inv_s {m : M3} (hd : detZ m = 1) : trcZ (invZ m) = sZ m := by
  unfold invZ sZ; rw [hd]; simp [trcZ, scaZ]
theorem rotZ_eq {m : M3} (hB : Bnd 1000 m) (hd : detZ m = 1) : rotZ m = rordX m := by
  have h1 := wM_id (by decide) (mulZ_B hB hB)
  have h2 := wM_id (by decide) (invZ_B hB (.inl hd))
  have h3 := trcZ_B hB
  have h4 := trcZ_B (invZ_B hB (.inl hd))
  rw [← rotC_rord hd]
  unfold rotZ
  rw [h1, h2, w64_id (x := trcZ m) (by omega) (by omega), w64_id (x := trcZ (invZ m)) (by omega) (by omega), inv_s hd]
theorem negM_eq {m : M3} (hB : Bnd 1000 m) : negM m = scaZ (-1) m := by
  obtain ⟨h1, h2, h3, h4, h5, h6, h7, h8, h9⟩ := hB
  unfold negM scaZ
  rw [w64_id (by omega) (by omega), w64_id (by omega) (by omega), w64_id (by omega) (by omega), w64_id (by omega) (by omega), w64_id (by omega) (by omega), w64_id (by omega) (by omega), w64_id (by omega) (by omega), w64_id (by omega) (by omega), w64_id (by omega) (by omega)]
  simp only [M3.mk.injEq]; omega
theorem sca1 (m : M3) : scaZ 1 m = m := by cases m; simp [scaZ]
theorem neg_tsd (m : M3) : trcZ (scaZ (-1) m) = -trcZ m ∧ sZ (scaZ (-1) m) = sZ m ∧ detZ (scaZ (-1) m) = -detZ m ∧ mulZ (scaZ (-1) m) (scaZ (-1) m) = mulZ m m := by
  refine ⟨?_, ?_, ?_, ?_⟩
  · simp only [trcZ, scaZ]; omega
  · simp only [sZ, trcZ, adjZ, scaZ]; grind
  · simp only [detZ, scaZ]; grind
  · simp only [mulZ, scaZ, M3.mk.injEq]; refine ⟨?_, ?_, ?_, ?_, ?_, ?_, ?_, ?_, ?_⟩ <;> grind
theorem rordX_vals (m : M3) : rordX m = 0 ∨ rordX m = 1 ∨ rordX m = 2 ∨ rordX m = 3 ∨ rordX m = 4 ∨ rordX m = 6 := by
  by_cases h : rordX m = 0
  · exact .inl h
  · obtain ⟨n, e, h1, h2, h3, _⟩ := min_order h
    omega
theorem rkiZ_eq {m : M3} (hB : Bnd 1000 m) (hd : detZ m = 1 ∨ detZ m = -1) : rkiZ m = detZ m * rordX (scaZ (detZ m) m) := by
  have hdB := detZ_B hB
  unfold rkiZ
  rw [w64_id (x := detZ m) (by omega) (by omega)]
  rcases hd with hd | hd
  · rw [if_pos hd, rotZ_eq hB hd, hd, sca1, Int.one_mul]
  · have hB' : Bnd 1000 (scaZ (-1) m) := sca_B hB (.inr rfl)
    have hd' : detZ (scaZ (-1) m) = 1 := by rw [(neg_tsd m).2.2.1, hd]; rfl
    rw [if_neg (by rw [hd]; decide), negM_eq hB, rotZ_eq hB' hd', hd]
    have := rordX_vals (scaZ (-1) m)
    rw [w64_id (by omega) (by omega)]; omega
/-- A matrix's order, by its kind. -/
theorem oof_kind {m : M3} (hB : Bnd 1000 m) (hd : detZ m = 1 ∨ detZ m = -1) : oofZ (rkiZ m) = rordX m := by
  rw [rkiZ_eq hB hd]
  rcases hd with hd | hd
  · rw [hd, sca1, Int.one_mul]
    rcases rordX_vals m with h | h | h | h | h | h <;> rw [h] <;> decide
  · rw [hd]
    obtain ⟨n1, n2, n3, n4⟩ := neg_tsd m
    have hd' : detZ (scaZ (-1) m) = 1 := by rw [n3, hd]; rfl
    by_cases h2 : mulZ m m = oneZ 1
    · have h2' : mulZ (scaZ (-1) m) (scaZ (-1) m) = oneZ 1 := by rw [n4]; exact h2
      have hne : m ≠ oneZ 1 := fun e => by rw [e] at hd; exact absurd hd (by decide)
      have e2 : rordX m = 2 := by
        unfold rordX; rw [if_neg fun e => hne (eqM_iff.1 e), if_pos (eqM_iff.2 h2)]
      rw [e2]
      by_cases h1 : scaZ (-1) m = oneZ 1
      · have : rordX (scaZ (-1) m) = 1 := by unfold rordX; rw [if_pos (eqM_iff.2 h1)]
        rw [this]; decide
      · have : rordX (scaZ (-1) m) = 2 := by unfold rordX; rw [if_neg fun e => h1 (eqM_iff.1 e), if_pos (eqM_iff.2 h2')]
        rw [this]; decide
    · have hne : m ≠ oneZ 1 := fun e => by rw [e] at hd; exact absurd hd (by decide)
      have e1 : rordX m = rordC (trcZ m) (sZ m) (-1) := by
        unfold rordX; rw [if_neg fun e => hne (eqM_iff.1 e), if_neg fun e => h2 (eqM_iff.1 e), hd]
      have h2' : mulZ (scaZ (-1) m) (scaZ (-1) m) ≠ oneZ 1 := by rw [n4]; exact h2
      have h1' : scaZ (-1) m ≠ oneZ 1 := fun e => h2' (by rw [e]; exact (mulZ_one _).1)
      have e3 : rordX (scaZ (-1) m) = rordC (-trcZ m) (sZ m) 1 := by
        unfold rordX; rw [if_neg fun e => h1' (eqM_iff.1 e), if_neg fun e => h2' (eqM_iff.1 e), hd', n1, n2]
      rw [e1, e3]
      generalize trcZ m = t
      generalize sZ m = s
      unfold rordC
      by_cases c0 : t = 0 ∧ s = 0
      · obtain ⟨rfl, rfl⟩ := c0; decide
      by_cases c1 : t = -1 ∧ s = 1
      · obtain ⟨rfl, rfl⟩ := c1; decide
      by_cases c2 : t = -2 ∧ s = 2
      · obtain ⟨rfl, rfl⟩ := c2; decide
      rw [if_neg (by omega), if_neg (by omega), if_neg (by omega), if_neg (by omega), if_neg (by omega), if_neg (by omega)]
      decide
/-! ### Translations' orders -/
def gcdChk : Bool := (List.range 24).all fun x => (List.range 24).all fun y => (List.range 24).all fun z => decide (lstT (V3.mk x y z) 24 1 = 24 / ((Nat.gcd (Nat.gcd (Nat.gcd 24 x) y) z : Nat) : Int))
theorem gcd_chk : gcdChk = true := by decide +kernel
theorem lst_gcd {t : V3} (h : inT t = true) : lstT t 24 1 = 24 / gcdI (gcdI (gcdI 24 t.x) t.y) t.z := by
  obtain ⟨⟨a1, a2⟩, ⟨b1, b2⟩, c1, c2⟩ := inT_iff.1 h
  obtain ⟨x, y, z⟩ := t
  simp only at a1 a2 b1 b2 c1 c2
  obtain ⟨x, rfl⟩ := Int.eq_ofNat_of_zero_le a1
  obtain ⟨y, rfl⟩ := Int.eq_ofNat_of_zero_le b1
  obtain ⟨z, rfl⟩ := Int.eq_ofNat_of_zero_le c1
  have h := gcd_chk
  unfold gcdChk at h
  rw [List.all_eq_true] at h
  have h := h x (List.mem_range.2 (by omega))
  rw [List.all_eq_true] at h
  have h := h y (List.mem_range.2 (by omega))
  rw [List.all_eq_true] at h
  have h := of_decide_eq_true (h z (List.mem_range.2 (by omega)))
  exact h
theorem gcd24_pos (x y z : Int) : 1 ≤ gcdI (gcdI (gcdI 24 x) y) z ∧ gcdI (gcdI (gcdI 24 x) y) z ≤ 24 := by
  have h1 : gcdI (gcdI (gcdI 24 x) y) z ∣ 24 := by
    unfold gcdI
    exact Int.dvd_trans (Int.gcd_dvd_left _ _) (Int.dvd_trans (Int.gcd_dvd_left _ _) (Int.gcd_dvd_left _ _))
  have h2 : 0 ≤ gcdI (gcdI (gcdI 24 x) y) z := Int.natCast_nonneg _
  obtain ⟨k, hk⟩ := h1
  generalize gcdI (gcdI (gcdI 24 x) y) z = g at *
  have : g ≠ 0 := fun e => by rw [e] at hk; omega
  have hk1 : 1 ≤ k := by
    by_cases hk0 : 1 ≤ k
    · exact hk0
    · have := Int.mul_nonneg h2 (show 0 ≤ -k by omega)
      rw [Int.mul_neg] at this; omega
  refine ⟨by omega, ?_⟩
  have := Int.mul_le_mul_of_nonneg_left hk1 h2
  omega
theorem dro_oro (o : Op3) : droZ o = oroZ o ∧ droE o = oroE o := by
  unfold droZ droE droR
  by_cases h : errO o = 0
  · have hF := errO_ok.1 h
    have hu : uniE o.R = 0 := uniE_of hF.B hF.d
    obtain ⟨v1, v2⟩ := ord_vals hu
    have ho := oof_kind hF.B hF.d
    rw [if_pos h, ho]
    by_cases hr : rordX o.R = 0
    · rw [if_pos hr]
      have he : oroE o = 9 := by rw [oroE_frm hF, v2, if_pos hr]
      refine ⟨?_, he.symm⟩
      unfold oroZ; rw [he]; rfl
    · rw [if_neg hr]
      have he : oroE o = 0 := by rw [oroE_frm hF, v2, if_neg hr]
      refine ⟨?_, he.symm⟩
      unfold oroZ
      rw [if_pos he, v1]
      have hs := sumT_in o (rordX o.R).toNat
      have hl := lst_ok (sumT o (rordX o.R).toNat)
      rw [← lst_gcd hs]
      have h6 := rordX_vals o.R
      have hB := mulB (a := rordX o.R) (b := lstT (sumT o (rordX o.R).toNat) 24 1) 6 24 (by omega) (by omega) (by omega) (by omega)
      exact w64_id (by omega) (by omega)
  · rw [if_neg h]
    have he : oroE o = errO o := by unfold oroE; rw [if_neg h]
    refine ⟨?_, he.symm⟩
    unfold oroZ; rw [he, if_neg h]
theorem dki_kin (o : Op3) : dkiZ o = kinZ o ∧ dkiE o = kinE o := by
  unfold dkiZ dkiE kinZ
  by_cases h : errO o = 0
  · have hF := errO_ok.1 h
    have hB' : Bnd 1000 (scaZ (detZ o.R) o.R) := sca_B hF.B hF.d
    have hd' : detZ (scaZ (detZ o.R) o.R) = 1 := by
      rcases hF.d with e | e
      · rw [e, sca1, e]
      · rw [e, (neg_tsd o.R).2.2.1, e]; rfl
    have hu : uniE (scaZ (detZ o.R) o.R) = 0 := uniE_of hB' (.inl hd')
    obtain ⟨v1, v2⟩ := ord_vals hu
    have hk := rkiZ_eq hF.B hF.d
    have he : kinE o = if rordX (scaZ (detZ o.R) o.R) = 0 then 9 else 0 := by unfold kinE; rw [if_pos h, v2]
    rw [if_pos h, if_pos h, he, hk, v1]
    by_cases hr : rordX (scaZ (detZ o.R) o.R) = 0
    · rw [hr, Int.mul_zero]; exact ⟨rfl, rfl⟩
    · rw [if_neg hr, if_pos rfl]
      refine ⟨rfl, ?_⟩
      rw [if_neg]
      intro e
      rcases Int.mul_eq_zero.1 e with e | e
      · rcases hF.d with e' | e' <;> rw [e'] at e <;> exact absurd e (by decide)
      · exact hr e
  · have he : kinE o = errO o := by unfold kinE; rw [if_neg h]
    rw [if_neg h, if_neg h, he, if_neg h]; exact ⟨rfl, rfl⟩
end Go.Fx
