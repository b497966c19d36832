/-
  Contracts: opPower, opOrder, opKind, opApply, opCompare.
-/
import Derived.Test.YthljaepanhdmiaaK9
namespace Go.Fx
open Go Go.Proofs
set_option maxRecDepth 100000
set_option linter.unusedVariables false
noncomputable def C_opPower : Contract := { args := [.agg .op, .int .i64], res := [.agg .op, .int .i64], pre := fun _ => True, F := fun x => ((powO x.1 x.2.1 : Op3), (powE x.1 x.2.1 : Int), ()) }
def T_opPower (o : Op3) (n : Int) : Prop :=
  (((decide (n < (-1000))) = true →
 ((Op3.mk (M3.mk 0 0 0 0 0 0 0 0 0) (V3.mk 0 0 0)), (1, ())) = (powO o n, (powE o n, ()))) ∧
((decide (n < (-1000))) = false →
(((decide (1000 < n)) = true →
 ((Op3.mk (M3.mk 0 0 0 0 0 0 0 0 0) (V3.mk 0 0 0)), (1, ())) = (powO o n, (powE o n, ()))) ∧
((decide (1000 < n)) = false →
(True ∧
(((decide (errL [o] = 0)) = true →
 (((decide (n < 0)) = true →
  (True ∧
  ∀ z6 : Op3,
  (z6 = selO (invE o) (invO o) →
  ∀ z8 : Int,
  (z8 = invE o →
  (True ∧
  (pwInv o n z6 ((w64 (0 - n))) z8 oneO ∧
  ∀ z10 : Int,
  ((decide ((-9223372036854775808) ≤ z10)) = true →
  ((decide (z10 ≤ 9223372036854775807)) = true →
  ∀ z13 : Int,
  ((decide ((-9223372036854775808) ≤ z13)) = true →
  ((decide (z13 ≤ 9223372036854775807)) = true →
  ∀ z16 : Op3,
  (pwInv o n z6 z10 z13 z16 →
  (((decide (z13 = 0)) = true →
   (((decide (0 < z10)) = true →
    (mulPre z6 z16 ∧
    ∀ z20 : Op3,
    (z20 = mulO z6 z16 →
    (True ∧
    ∀ z22 : Op3,
    (z22 = selO (errM z20.R) z20 →
    ∀ z24 : Int,
    (z24 = errM z20.R →
    (pwInv o n z6 ((w64 (z10 - 1))) z24 z22 ∧
    ((decide (0 ≤ pwMu ((w64 (z10 - 1))))) = true ∧
    (decide (pwMu ((w64 (z10 - 1))) < pwMu z10)) = true)))))))) ∧
   ((decide (0 < z10)) = false →
   (((!(decide (z13 = 0))) = true →
    ((Op3.mk (M3.mk 0 0 0 0 0 0 0 0 0) (V3.mk 0 0 0)), (z13, ())) = (powO o n, (powE o n, ()))) ∧
   ((!(decide (z13 = 0))) = false →
   (z16, (0, ())) = (powO o n, (powE o n, ()))))))) ∧
  ((decide (z13 = 0)) = false →
  (((!(decide (z13 = 0))) = true →
   ((Op3.mk (M3.mk 0 0 0 0 0 0 0 0 0) (V3.mk 0 0 0)), (z13, ())) = (powO o n, (powE o n, ()))) ∧
  ((!(decide (z13 = 0))) = false →
  (z16, (0, ())) = (powO o n, (powE o n, ()))))))))))))))))) ∧
 ((decide (n < 0)) = false →
 (True ∧
 (pwInv o n o n (errL [o]) oneO ∧
 ∀ z6 : Int,
 ((decide ((-9223372036854775808) ≤ z6)) = true →
 ((decide (z6 ≤ 9223372036854775807)) = true →
 ∀ z9 : Int,
 ((decide ((-9223372036854775808) ≤ z9)) = true →
 ((decide (z9 ≤ 9223372036854775807)) = true →
 ∀ z12 : Op3,
 (pwInv o n o z6 z9 z12 →
 (((decide (z9 = 0)) = true →
  (((decide (0 < z6)) = true →
   (mulPre o z12 ∧
   ∀ z16 : Op3,
   (z16 = mulO o z12 →
   (True ∧
   ∀ z18 : Op3,
   (z18 = selO (errM z16.R) z16 →
   ∀ z20 : Int,
   (z20 = errM z16.R →
   (pwInv o n o ((w64 (z6 - 1))) z20 z18 ∧
   ((decide (0 ≤ pwMu ((w64 (z6 - 1))))) = true ∧
   (decide (pwMu ((w64 (z6 - 1))) < pwMu z6)) = true)))))))) ∧
  ((decide (0 < z6)) = false →
  (((!(decide (z9 = 0))) = true →
   ((Op3.mk (M3.mk 0 0 0 0 0 0 0 0 0) (V3.mk 0 0 0)), (z9, ())) = (powO o n, (powE o n, ()))) ∧
  ((!(decide (z9 = 0))) = false →
  (z12, (0, ())) = (powO o n, (powE o n, ()))))))) ∧
 ((decide (z9 = 0)) = false →
 (((!(decide (z9 = 0))) = true →
  ((Op3.mk (M3.mk 0 0 0 0 0 0 0 0 0) (V3.mk 0 0 0)), (z9, ())) = (powO o n, (powE o n, ()))) ∧
 ((!(decide (z9 = 0))) = false →
 (z12, (0, ())) = (powO o n, (powE o n, ())))))))))))))))) ∧
((decide (errL [o] = 0)) = false →
(True ∧
(pwInv o n o n (errL [o]) oneO ∧
∀ z5 : Int,
((decide ((-9223372036854775808) ≤ z5)) = true →
((decide (z5 ≤ 9223372036854775807)) = true →
∀ z8 : Int,
((decide ((-9223372036854775808) ≤ z8)) = true →
((decide (z8 ≤ 9223372036854775807)) = true →
∀ z11 : Op3,
(pwInv o n o z5 z8 z11 →
(((decide (z8 = 0)) = true →
 (((decide (0 < z5)) = true →
  (mulPre o z11 ∧
  ∀ z15 : Op3,
  (z15 = mulO o z11 →
  (True ∧
  ∀ z17 : Op3,
  (z17 = selO (errM z15.R) z15 →
  ∀ z19 : Int,
  (z19 = errM z15.R →
  (pwInv o n o ((w64 (z5 - 1))) z19 z17 ∧
  ((decide (0 ≤ pwMu ((w64 (z5 - 1))))) = true ∧
  (decide (pwMu ((w64 (z5 - 1))) < pwMu z5)) = true)))))))) ∧
 ((decide (0 < z5)) = false →
 (((!(decide (z8 = 0))) = true →
  ((Op3.mk (M3.mk 0 0 0 0 0 0 0 0 0) (V3.mk 0 0 0)), (z8, ())) = (powO o n, (powE o n, ()))) ∧
 ((!(decide (z8 = 0))) = false →
 (z11, (0, ())) = (powO o n, (powE o n, ()))))))) ∧
((decide (z8 = 0)) = false →
(((!(decide (z8 = 0))) = true →
 ((Op3.mk (M3.mk 0 0 0 0 0 0 0 0 0) (V3.mk 0 0 0)), (z8, ())) = (powO o n, (powE o n, ()))) ∧
((!(decide (z8 = 0))) = false →
(z11, (0, ())) = (powO o n, (powE o n, ()))))))))))))))))))))
theorem r_opPower (x : HL C_opPower.args) : runs (env [(36, C_opcheck), (25, C_opInverse.hid), (21, C_opOne), (54, C_opmul.hid), (53, C_opmade.hid)] [(29, 8, { fix := [(.cell 2, .agg .op)], vars := [(.tmp 1, .int .i64), (.tmp 6, .int .i64), (.cell 7, .agg .op)], inv := fun y v => pwInv x.1 x.2.1 y.1 v.1 v.2.1 v.2.2.1, mu := fun y v => pwMu v.1 })]) 400 29 C_opPower x = T_opPower x.1 x.2.1 := by kernel_rfl
theorem p_opPower (o : Op3) (n : Int) (h0 : (Sh.agg .op).okA o) (h1 : (Sh.int .i64).okA n) : T_opPower o n := by
  have e1 := errL_one o
  refine ⟨fun h => pw_far (.inl (of_decide_eq_true h)), fun h1 => ⟨fun h => pw_far (.inr (of_decide_eq_true h)), fun h2 => ⟨trivial, ?_⟩⟩⟩
  have h1 := of_decide_eq_false h1
  have h2 := of_decide_eq_false h2
  have init := pw_init (o := o) (n := n) ⟨by omega, by omega⟩
  have fin : ∀ {k e : Int} {w p : Op3}, pwInv o n w k e p → e ≠ 0 → (zerO, (e, ())) = (powO o n, (powE o n, ())) := fun {k e w p} hI he => by
    have := pw_done h1 h2 hI (.inl he)
    unfold selO at this; rw [if_neg he] at this; exact this
  have fin0 : ∀ {k : Int} {w p : Op3}, pwInv o n w k 0 p → ¬ 0 < k → (p, ((0 : Int), ())) = (powO o n, (powE o n, ())) := fun {k w p} hI hk => pw_done h1 h2 hI (.inr hk)
  have loop : ∀ {w p : Op3} {k e : Int}, pwInv o n w k e p → (((decide (e = 0)) = true → (((decide (0 < k)) = true → (mulPre w p ∧ ∀ z : Op3, (z = mulO w p → (True ∧ ∀ y : Op3, (y = selO (errM z.R) z → ∀ f : Int, (f = errM z.R → (pwInv o n w (w64 (k - 1)) f y ∧ ((decide (0 ≤ pwMu (w64 (k - 1)))) = true ∧ (decide (pwMu (w64 (k - 1)) < pwMu k)) = true)))))))) ∧
      ((decide (0 < k)) = false → (((!(decide (e = 0))) = true → ((Op3.mk (M3.mk 0 0 0 0 0 0 0 0 0) (V3.mk 0 0 0)), (e, ())) = (powO o n, (powE o n, ()))) ∧ ((!(decide (e = 0))) = false → (p, ((0 : Int), ())) = (powO o n, (powE o n, ()))))))) ∧
      ((decide (e = 0)) = false → (((!(decide (e = 0))) = true → ((Op3.mk (M3.mk 0 0 0 0 0 0 0 0 0) (V3.mk 0 0 0)), (e, ())) = (powO o n, (powE o n, ()))) ∧ ((!(decide (e = 0))) = false → (p, ((0 : Int), ())) = (powO o n, (powE o n, ())))))) := fun {w p k e} hI => by
    refine ⟨fun he => ⟨fun hk => ?_, fun hk => ⟨fun h => ?_, fun _ => ?_⟩⟩, fun he => ⟨fun _ => fin hI (of_decide_eq_false he), fun h => ?_⟩⟩
    · have he := of_decide_eq_true he
      subst he
      obtain ⟨j1, j2, j3, j4⟩ := hI.2.1 rfl
      refine ⟨sml_pre j3 j4, fun z hz => ⟨trivial, fun y hy f hf => ?_⟩⟩
      exact pw_next hI (of_decide_eq_true hk) (by rw [hy, hz]) (by rw [hf, hz])
    · exact absurd (of_decide_eq_true he) (of_decide_eq_false (no_not h))
    · have he := of_decide_eq_true he
      subst he
      exact fin0 hI (of_decide_eq_false hk)
    · exact absurd (of_decide_eq_true (ye_not h)) (of_decide_eq_false he)
  refine ⟨fun h3 => ⟨fun h4 => ⟨trivial, fun w hw e he => ⟨trivial, ?_, fun k _ _ e' _ _ p hI => loop hI⟩⟩, fun h4 => ⟨trivial, ?_, fun k _ _ e' _ _ p hI => loop hI⟩⟩, fun h3 => ⟨trivial, ?_, fun k _ _ e' _ _ p hI => loop hI⟩⟩
  · have h3 := of_decide_eq_true h3
    rw [e1] at h3
    have h4 := of_decide_eq_true h4
    have b : powB o n = w := by unfold powB; rw [if_pos ⟨h3, h4⟩, hw]
    have f : powF o n = e := by unfold powF; rw [if_pos h3, if_pos h4, he]
    rw [if_pos ⟨h3, h4⟩, b, f] at init
    rw [w64_id (by omega) (by omega), Int.zero_sub]; exact init
  · have h3 := of_decide_eq_true h3
    rw [e1] at h3 ⊢
    have h4 := of_decide_eq_false h4
    have b : powB o n = o := by unfold powB; rw [if_neg fun h => h4 h.2]
    have f : powF o n = errO o := by unfold powF; rw [if_pos h3, if_neg h4, h3]
    rw [if_neg (fun h => h4 h.2), b, f] at init
    exact init
  · have h3 := of_decide_eq_false h3
    rw [e1] at h3 ⊢
    have b : powB o n = o := by unfold powB; rw [if_neg fun h => h3 h.1]
    have f : powF o n = errO o := by unfold powF; rw [if_neg h3]
    rw [if_neg (fun h => h3 h.1), b, f] at init
    exact init
theorem s_opPower : Sound Try.prog 29 C_opPower :=
  sound_of_eqs (fun x => env [(36, C_opcheck), (25, C_opInverse.hid), (21, C_opOne), (54, C_opmul.hid), (53, C_opmade.hid)] [(29, 8, { fix := [(.cell 2, .agg .op)], vars := [(.tmp 1, .int .i64), (.tmp 6, .int .i64), (.cell 7, .agg .op)], inv := fun y v => pwInv x.1 x.2.1 y.1 v.1 v.2.1 v.2.2.1, mu := fun y v => pwMu v.1 })]) (fun _ => rfl) (fun _ => env_ok (.cons s_opcheck (.cons s_opInverse.hid (.cons s_opOne (.cons s_opmul.hid (.cons s_opmade.hid (.nil))))))) (fun x => T_opPower x.1 x.2.1) r_opPower fun x ok hp => p_opPower x.1 x.2.1 ok.1 ok.2.1
noncomputable def C_opOrder : Contract := { args := [.agg .op], res := [.int .i64, .int .i64], pre := fun _ => True, F := fun x => ((oroZ x.1 : Int), (oroE x.1 : Int), ()) }
def T_opOrder (o : Op3) : Prop :=
  (True ∧
(((!(decide (errL [o] = 0))) = true →
 (0, (errL [o], ())) = (oroZ o, (oroE o, ()))) ∧
((!(decide (errL [o] = 0))) = false →
(True ∧
∀ z2 : Int,
(z2 = ordZ o.R →
∀ z4 : Int,
(z4 = ordE o.R →
(((!(decide (z4 = 0))) = true →
 (0, (z4, ())) = (oroZ o, (oroE o, ()))) ∧
((!(decide (z4 = 0))) = false →
(soInv o z2 0 (V3.mk 0 0 0) ∧
∀ z7 : Int,
((decide ((-9223372036854775808) ≤ z7)) = true →
((decide (z7 ≤ 9223372036854775807)) = true →
∀ z10 : V3,
(soInv o z2 z7 z10 →
(((decide (z7 < z2)) = true →
 (inTp z10 ∧
 (True ∧
 (soInv o z2 ((w64 (z7 + 1))) (addT (shiT o.R z10) o.T) ∧
 ((decide (0 ≤ subMu z2 ((w64 (z7 + 1))))) = true ∧
 (decide (subMu z2 ((w64 (z7 + 1))) < subMu z2 z7)) = true))))) ∧
((decide (z7 < z2)) = false →
(lsInv z10 1 ∧
∀ z13 : Int,
((decide ((-9223372036854775808) ≤ z13)) = true →
((decide (z13 ≤ 9223372036854775807)) = true →
(lsInv z10 z13 →
(True ∧
(((!((decide ((timT z13 z10).x = 0)) && ((decide ((timT z13 z10).y = 0)) && ((decide ((timT z13 z10).z = 0)) && true)))) = true →
 (lsInv z10 ((w64 (z13 + 1))) ∧
 ((decide (0 ≤ subMu 24 ((w64 (z13 + 1))))) = true ∧
 (decide (subMu 24 ((w64 (z13 + 1))) < subMu 24 z13)) = true))) ∧
((!((decide ((timT z13 z10).x = 0)) && ((decide ((timT z13 z10).y = 0)) && ((decide ((timT z13 z10).z = 0)) && true)))) = false →
((w64 (z2 * z13)), (0, ())) = (oroZ o, (oroE o, ())))))))))))))))))))))))
theorem r_opOrder (x : HL C_opOrder.args) : runs (env [(36, C_opcheck), (37, C_Order.hid), (39, C_opshift), (38, C_fAdd), (40, C_fTimes)] [(13, 9, { fix := [(.cell 1, .agg .op), (.tmp 24, .int .i64)], vars := [(.tmp 25, .int .i64), (.cell 7, .agg .vec)], inv := fun y v => soInv y.1 y.2.1 v.1 v.2.1, mu := fun y v => subMu y.2.1 v.1 }), (13, 13, { fix := [(.cell 7, .agg .vec)], vars := [(.tmp 8, .int .i64)], inv := fun y v => lsInv y.1 v.1, mu := fun y v => subMu 24 v.1 })]) 400 13 C_opOrder x = T_opOrder x.1 := by kernel_rfl
theorem p_opOrder (o : Op3) (h0 : (Sh.agg .op).okA o) : T_opOrder o := by
  have e1 := errL_one o
  refine ⟨trivial, fun h => ?_, fun h => ⟨trivial, fun r hr e he => ⟨fun h2 => ?_, fun h2 => ⟨⟨by omega, .inr rfl, rfl⟩, fun k _ _ t hI => ⟨fun hk => ?_, fun hk => ⟨⟨by omega, by omega, rfl⟩, fun n _ _ hL => ⟨trivial, fun hz => ls_next hL (no_not hz), fun hz => ?_⟩⟩⟩⟩⟩⟩⟩
  · have h := of_decide_eq_false (no_not h)
    rw [e1] at h ⊢
    have : oroE o = errO o := by unfold oroE; rw [if_neg h]
    unfold oroZ; rw [this, if_neg h]
  · have h := of_decide_eq_true (ye_not h)
    rw [e1] at h
    have h2 := of_decide_eq_false (no_not h2)
    have : oroE o = e := by unfold oroE; rw [if_pos h, he]
    unfold oroZ; rw [this, if_neg h2]
  · have hr6 := ordZ_in o.R
    obtain ⟨i1, i2, i3⟩ := hI
    refine ⟨by rw [i3]; exact sumT_in o _, trivial, ?_⟩
    exact so_next (by omega) ⟨i1, i2, i3⟩ (of_decide_eq_true hk)
  · have h := of_decide_eq_true (ye_not h)
    rw [e1] at h
    have h2 := of_decide_eq_true (ye_not h2)
    have hr6 := ordZ_in o.R
    have hz : zerV (timT n t) = true := ye_not hz
    have hn := ls_end hL hz
    obtain ⟨i1, i2, i3⟩ := hI
    have hk := of_decide_eq_false hk
    have ht : t = sumT o (ordZ o.R).toNat := by rw [i3]; congr 1; omega
    have he0 : oroE o = 0 := by unfold oroE; rw [if_pos h, ← he, h2]
    have hl := lst_ok t
    rw [hn] at hl
    have hB := mulB (a := r) (b := n) 6 24 (by omega) (by omega) (by omega) (by omega)
    unfold oroZ
    rw [he0, if_pos rfl, ← ht, hn, w64_id (by omega) (by omega), hr]
theorem s_opOrder : Sound Try.prog 13 C_opOrder :=
  sound_of_eq (env_ok (.cons s_opcheck (.cons s_Order.hid (.cons s_opshift (.cons s_fAdd (.cons s_fTimes (.nil))))))) (fun x => T_opOrder x.1) r_opOrder fun x ok hp => p_opOrder x.1 ok.1
noncomputable def C_opKind : Contract := { args := [.agg .op], res := [.int .i64, .int .i64], pre := fun _ => True, F := fun x => ((kinZ x.1 : Int), (kinE x.1 : Int), ()) }
def T_opKind (o : Op3) : Prop :=
  (True ∧
(((!(decide (errL [o] = 0))) = true →
 (0, (errL [o], ())) = (kinZ o, (kinE o, ()))) ∧
((!(decide (errL [o] = 0))) = false →
(True ∧
∀ z2 : Int,
(z2 = selI (errM o.R) (w64 (detZ o.R)) →
∀ z4 : Int,
(z4 = errM o.R →
(True ∧
∀ z6 : Int,
(z6 = ordZ ((M3.mk ((w64 (o.R.xx * z2))) ((w64 (o.R.xy * z2))) ((w64 (o.R.xz * z2))) ((w64 (o.R.yx * z2))) ((w64 (o.R.yy * z2))) ((w64 (o.R.yz * z2))) ((w64 (o.R.zx * z2))) ((w64 (o.R.zy * z2))) ((w64 (o.R.zz * z2))))) →
∀ z8 : Int,
(z8 = ordE ((M3.mk ((w64 (o.R.xx * z2))) ((w64 (o.R.xy * z2))) ((w64 (o.R.xz * z2))) ((w64 (o.R.yx * z2))) ((w64 (o.R.yy * z2))) ((w64 (o.R.yz * z2))) ((w64 (o.R.zx * z2))) ((w64 (o.R.zy * z2))) ((w64 (o.R.zz * z2))))) →
((w64 (z2 * z6)), (z8, ())) = (kinZ o, (kinE o, ())))))))))))
theorem r_opKind (x : HL C_opKind.args) : runs (env [(36, C_opcheck), (47, C_Det.hid), (37, C_Order.hid)] []) 400 15 C_opKind x = T_opKind x.1 := by kernel_rfl
theorem p_opKind (o : Op3) (h0 : (Sh.agg .op).okA o) : T_opKind o := by
  have e1 := errL_one o
  by_cases he : errO o = 0
  · have hF := errO_ok.1 he
    have hd := hF.d
    have hdB := detZ_B hF.B
    have hw : w64 (detZ o.R) = detZ o.R := w64_id (by omega) (by omega)
    have hm : errM o.R = 0 := errM_B (by decide) hF.B
    have hs : M3.mk (w64 (o.R.xx * detZ o.R)) (w64 (o.R.xy * detZ o.R)) (w64 (o.R.xz * detZ o.R)) (w64 (o.R.yx * detZ o.R)) (w64 (o.R.yy * detZ o.R)) (w64 (o.R.yz * detZ o.R)) (w64 (o.R.zx * detZ o.R)) (w64 (o.R.zy * detZ o.R)) (w64 (o.R.zz * detZ o.R)) = scaZ (detZ o.R) o.R :=
      wM_id (by decide) (sca_B hF.B hd)
    have hk : kinE o = ordE (scaZ (detZ o.R) o.R) := by unfold kinE; rw [if_pos he]
    have h6 := ordZ_in (scaZ (detZ o.R) o.R)
    have hz : w64 (detZ o.R * ordZ (scaZ (detZ o.R) o.R)) = kinZ o := by
      have w1 : w64 (detZ o.R * ordZ (scaZ (detZ o.R) o.R)) = detZ o.R * ordZ (scaZ (detZ o.R) o.R) := by
        generalize ordZ (scaZ (detZ o.R) o.R) = q at h6 ⊢
        rcases hd with e | e <;> rw [e] <;> exact w64_id (by omega) (by omega)
      rw [w1]
      unfold kinZ; rw [hk]
      by_cases h0 : ordE (scaZ (detZ o.R) o.R) = 0
      · rw [if_pos h0]
      · rw [if_neg h0]
        have : ordZ (scaZ (detZ o.R) o.R) = 0 := by
          by_cases hu : uniE (scaZ (detZ o.R) o.R) = 0
          · rw [(ord_vals hu).1]
            rw [(ord_vals hu).2] at h0
            by_cases hr : rordX (scaZ (detZ o.R) o.R) = 0
            · exact hr
            · rw [if_neg hr] at h0; exact absurd rfl h0
          · unfold ordZ ordR; rw [if_neg hu]
        rw [this, Int.mul_zero]
    refine ⟨trivial, fun h => absurd (e1.trans he) (of_decide_eq_false (no_not h)), fun _ => ⟨trivial, fun d hd' e2 _ => ⟨trivial, fun r hr e hre => ?_⟩⟩⟩
    have hdd : d = detZ o.R := by rw [hd', hm, hw]; rfl
    subst hdd
    rw [hs] at hr hre
    rw [hr, hre, hz, hk]
  · have hk : kinE o = errO o := by unfold kinE; rw [if_neg he]
    simp [T_opKind, e1, he, hk, kinZ]
theorem s_opKind : Sound Try.prog 15 C_opKind :=
  sound_of_eq (env_ok (.cons s_opcheck (.cons s_Det.hid (.cons s_Order.hid (.nil))))) (fun x => T_opKind x.1) r_opKind fun x ok hp => p_opKind x.1 ok.1
noncomputable def C_opApply : Contract := { args := [.agg .op, .agg .pt], res := [.agg .pt, .int .i64], pre := fun _ => True, F := fun x => ((appP x.1 x.2.1 : Pt), (appE x.1 x.2.1 : Int), ()) }
def T_opApply (o : Op3) (p : Pt) : Prop :=
  (True ∧
(True ∧
(((!frmP p) = true →
 ((Pt.mk 0 (V3.mk 0 0 0)), (3, ())) = (appP o p, (appE o p, ()))) ∧
((!frmP p) = false →
(((!(decide (errL [o] = 0))) = true →
 ((Pt.mk 0 (V3.mk 0 0 0)), (errL [o], ())) = (appP o p, (appE o p, ()))) ∧
((!(decide (errL [o] = 0))) = false →
(True ∧
∀ z4 : V3,
(z4 = selV (err2 (errM o.R) (errV p.X)) (wV (appZ o.R p.X)) →
∀ z6 : Int,
(z6 = err2 (errM o.R) (errV p.X) →
(True ∧
∀ z8 : Pt,
(z8 = plaP p.M z4 →
∀ z10 : Int,
(z10 = plaE p.M →
(True ∧
∀ z12 : Pt,
(z12 = shfP z8 o.T →
∀ z14 : Int,
(z14 = shfE z8 →
(z12, (z14, ())) = (appP o p, (appE o p, ())))))))))))))))))
theorem r_opApply (x : HL C_opApply.args) : runs (env [(36, C_opcheck), (64, C_fForm), (65, C_Apply.hid), (66, C_fPlace.hid), (67, C_fShift.hid)] []) 400 31 C_opApply x = T_opApply x.1 x.2.1 := by kernel_rfl
theorem p_opApply (o : Op3) (p : Pt) (h0 : (Sh.agg .op).okA o) (h1 : (Sh.agg .pt).okA p) : T_opApply o p := by
  have e1 := errL_one o
  cases hp : frmP p
  · simp [T_opApply, hp, appP, appE, zerP]
  · by_cases he : errO o = 0
    · have hF := errO_ok.1 he
      have hr := frmP_rgt hp
      have hm : errM o.R = 0 := errM_B (by decide) hF.B
      obtain ⟨q0, q1, q2, q3⟩ := frmP_iff.1 hp
      have hc : errV p.X = 0 := by
        unfold errV
        rw [if_pos]
        simp only [okC, inE, Bool.and_eq_true, decide_eq_true_eq]
        omega
      have hB : BndV 192 p.X := ⟨⟨by omega, by omega⟩, ⟨by omega, by omega⟩, ⟨by omega, by omega⟩⟩
      have hw : wV (appZ o.R p.X) = appZ o.R p.X := wV_id (by decide) (appB hF.B hB)
      have hE : appE o p = 0 := by unfold appE; rw [if_pos hp, he]
      have hP : appP o p = appX o p := by unfold appP; rw [if_pos hE]
      have pl : plaP p.M (appZ o.R p.X) = Pt.mk p.M (modV p.M (appZ o.R p.X)) := by unfold plaP; rw [if_pos hr]
      have sf : frmP (Pt.mk p.M (modV p.M (appZ o.R p.X))) = true := frmP_mod hr _
      have se : shfE (Pt.mk p.M (modV p.M (appZ o.R p.X))) = 0 := by unfold shfE; rw [if_pos sf]
      have sp : shfP (Pt.mk p.M (modV p.M (appZ o.R p.X))) o.T = appX o p := by
        unfold shfP; rw [if_pos sf]
        show Pt.mk p.M _ = Pt.mk p.M _
        congr 1
        show eqV p.M (addV (modV p.M (appZ o.R p.X)) (scaV (p.M / 24) o.T)) (addV (appZ o.R p.X) (scaV (p.M / 24) o.T))
        exact eqV_add (eqV_mod _ _) (eqV.refl _ _)
      simp [T_opApply, hp, e1, he, hE, hP, hm, hc, hw, selV, err2, pl, se, sp]
    · have hE : appE o p = errO o := by unfold appE; rw [if_pos hp]
      simp [T_opApply, hp, e1, he, hE, appP, zerP]
theorem s_opApply : Sound Try.prog 31 C_opApply :=
  sound_of_eq (env_ok (.cons s_opcheck (.cons s_fForm (.cons s_Apply.hid (.cons s_fPlace.hid (.cons s_fShift.hid (.nil))))))) (fun x => T_opApply x.1 x.2.1) r_opApply fun x ok hp => p_opApply x.1 x.2.1 ok.1 ok.2.1
noncomputable def C_opCompare : Contract := { args := [.agg .op, .agg .op], res := [.int .i64], pre := fun _ => True, F := fun x => ((cmpO x.1 x.2.1 : Int), ()) }
def T_opCompare (a : Op3) (b : Op3) : Prop :=
  (True ∧
(((!(decide (cmpM a.R b.R = 0))) = true →
 (cmpM a.R b.R, ()) = (cmpO a b, ())) ∧
((!(decide (cmpM a.R b.R = 0))) = false →
(True ∧
(((!(decide (cmpE a.T.x b.T.x 0 = 0))) = true →
 (cmpE a.T.x b.T.x 0, ()) = (cmpO a b, ())) ∧
((!(decide (cmpE a.T.x b.T.x 0 = 0))) = false →
(True ∧
(((!(decide (cmpE a.T.y b.T.y 0 = 0))) = true →
 (cmpE a.T.y b.T.y 0, ()) = (cmpO a b, ())) ∧
((!(decide (cmpE a.T.y b.T.y 0 = 0))) = false →
(True ∧
(((!(decide (cmpE a.T.z b.T.z 0 = 0))) = true →
 (cmpE a.T.z b.T.z 0, ()) = (cmpO a b, ())) ∧
((!(decide (cmpE a.T.z b.T.z 0 = 0))) = false →
(0, ()) = (cmpO a b, ())))))))))))))
theorem r_opCompare (x : HL C_opCompare.args) : runs (env [(61, C_Compare), (62, C_cmpInt)] []) 400 27 C_opCompare x = T_opCompare x.1 x.2.1 := by kernel_rfl
theorem p_opCompare (a : Op3) (b : Op3) (h0 : (Sh.agg .op).okA a) (h1 : (Sh.agg .op).okA b) : T_opCompare a b := by
  unfold T_opCompare cmpO cmpV
  by_cases h1 : cmpM a.R b.R = 0
  · rw [if_pos h1]
    have key : ∀ x y k : Int, cmpE x y k = if cmpE x y 0 = 0 then k else cmpE x y 0 := fun x y k => by
      unfold cmpE; by_cases h : x < y <;> by_cases h' : y < x <;> simp [h, h']
    rw [key a.T.x, key a.T.y, key a.T.z b.T.z 0]
    by_cases h2 : cmpE a.T.x b.T.x 0 = 0 <;> by_cases h3 : cmpE a.T.y b.T.y 0 = 0 <;> by_cases h4 : cmpE a.T.z b.T.z 0 = 0 <;> simp [h1, h2, h3, h4]
  · rw [if_neg h1]; simp [h1]
theorem s_opCompare : Sound Try.prog 27 C_opCompare :=
  sound_of_eq (env_ok (.cons s_Compare (.cons s_cmpInt (.nil)))) (fun x => T_opCompare x.1 x.2.1) r_opCompare fun x ok hp => p_opCompare x.1 x.2.1 ok.1 ok.2.1
end Go.Fx
