/-
  Contracts: fTimes, opOrder, opKind.
-/
import Derived.Test.YtkmbomopkojgfaaK19
import Derived.Test.YtkmbomopkojgfaaKs
namespace Go.Fx
open Go Go.Proofs
set_option maxRecDepth 100000
set_option linter.unusedVariables false
set_option linter.unusedSimpArgs false
set_option linter.unusedSectionVars false
noncomputable def C_fTimes : Contract := { args := [.int .i64, .agg .vec], res := [.agg .vec], pre := fun _ => True, F := fun x => ((timT x.1 x.2.1 : V3), ()) }
def T_fTimes (n : Int) (a : V3) : Prop :=
  (inM 24 ∧
(inM 24 ∧
(inM 24 ∧
((V3.mk (emo (((Int.tmod n 24) * (Int.tmod a.x 24))) 24) (emo (((Int.tmod n 24) * (Int.tmod a.y 24))) 24) (emo (((Int.tmod n 24) * (Int.tmod a.z 24))) 24)), ()) = (timT n a, ()))))
theorem r_fTimes (x : HL C_fTimes.args) : runs (env0 [(74, C_fmod)] [] []) 400 57 C_fTimes x = T_fTimes x.1 x.2.1 := by kernel_rfl
theorem p_fTimes (n : Int) (a : V3) (h0 : (Sh.int .i64).okA n) (h1 : (Sh.agg .vec).okA a) : T_fTimes n a := by
  refine ⟨k24, k24, k24, ?_⟩
  simp only [emo, mul24']; rfl
theorem s_fTimes : Sound Try.prog 57 C_fTimes :=
  sound_of_eq (env0_ok (.cons s_fmod (.nil))) (fun x => T_fTimes x.1 x.2.1) r_fTimes fun x ok hp => p_fTimes x.1 x.2.1 ok.1 ok.2.1
noncomputable def C_opOrder : Contract := { args := [.agg .op], res := [.int .i64, .int .i64], pre := fun _ => True, F := fun x => ((oroZ x.1 : Int), (oroE x.1 : Int), ()) }
def T_opOrder (o : Op3) : Prop :=
  (True ∧
(((!(decide (errL [o] = 0))) = true →
 (0, (errL [o], ())) = (oroZ o, (oroE o, ()))) ∧
((!(decide (errL [o] = 0))) = false →
(True ∧
∀ z2 : Int,
(z2 = ordZ o.R →
∀ z4 : Int,
(z4 = ordE o.R →
(((!(decide (z4 = 0))) = true →
 (0, (z4, ())) = (oroZ o, (oroE o, ()))) ∧
((!(decide (z4 = 0))) = false →
(soInv o z2 0 (V3.mk 0 0 0) ∧
∀ z7 : Int,
((decide ((-9223372036854775808) ≤ z7)) = true →
((decide (z7 ≤ 9223372036854775807)) = true →
∀ z10 : V3,
(soInv o z2 z7 z10 →
(((decide (z7 < z2)) = true →
 (inTp z10 ∧
 (True ∧
 (soInv o z2 ((w64 (z7 + 1))) (addT (shiT o.R z10) o.T) ∧
 ((decide (0 ≤ subMu z2 ((w64 (z7 + 1))))) = true ∧
 (decide (subMu z2 ((w64 (z7 + 1))) < subMu z2 z7)) = true))))) ∧
((decide (z7 < z2)) = false →
(lsInv z10 1 ∧
∀ z13 : Int,
((decide ((-9223372036854775808) ≤ z13)) = true →
((decide (z13 ≤ 9223372036854775807)) = true →
(lsInv z10 z13 →
(True ∧
(((!((decide ((timT z13 z10).x = 0)) && ((decide ((timT z13 z10).y = 0)) && ((decide ((timT z13 z10).z = 0)) && true)))) = true →
 (lsInv z10 ((w64 (z13 + 1))) ∧
 ((decide (0 ≤ subMu 24 ((w64 (z13 + 1))))) = true ∧
 (decide (subMu 24 ((w64 (z13 + 1))) < subMu 24 z13)) = true))) ∧
((!((decide ((timT z13 z10).x = 0)) && ((decide ((timT z13 z10).y = 0)) && ((decide ((timT z13 z10).z = 0)) && true)))) = false →
((w64 (z2 * z13)), (0, ())) = (oroZ o, (oroE o, ())))))))))))))))))))))))
theorem r_opOrder (x : HL C_opOrder.args) : runs (env0 [(36, C_opcheck), (54, C_Order.hid), (56, C_opshift), (55, C_fAdd), (57, C_fTimes)] [(28, 9, { fix := [(.cell 1, .agg .op), (.tmp 24, .int .i64)], vars := [(.tmp 25, .int .i64), (.cell 7, .agg .vec)], inv := fun y v => soInv y.1 y.2.1 v.1 v.2.1, mu := fun y v => subMu y.2.1 v.1 }), (28, 13, { fix := [(.cell 7, .agg .vec)], vars := [(.tmp 8, .int .i64)], inv := fun y v => lsInv y.1 v.1, mu := fun y v => subMu 24 v.1 })] []) 400 28 C_opOrder x = T_opOrder x.1 := by kernel_rfl
theorem p_opOrder (o : Op3) (h0 : (Sh.agg .op).okA o) : T_opOrder o := by
  have e1 := errL_one o
  refine ⟨trivial, fun h => ?_, fun h => ⟨trivial, fun r hr e he => ⟨fun h2 => ?_, fun h2 => ⟨⟨by omega, .inr rfl, rfl⟩, fun k _ _ t hI => ⟨fun hk => ?_, fun hk => ⟨⟨by omega, by omega, rfl⟩, fun n _ _ hL => ⟨trivial, fun hz => ls_next hL (no_not hz), fun hz => ?_⟩⟩⟩⟩⟩⟩⟩
  · have h := of_decide_eq_false (no_not h)
    rw [e1] at h ⊢
    have : oroE o = errO o := by unfold oroE; rw [if_neg h]
    unfold oroZ; rw [this, if_neg h]
  · have h := of_decide_eq_true (ye_not h)
    rw [e1] at h
    have h2 := of_decide_eq_false (no_not h2)
    have : oroE o = e := by unfold oroE; rw [if_pos h, he]
    unfold oroZ; rw [this, if_neg h2]
  · have hr6 := ordZ_in o.R
    obtain ⟨i1, i2, i3⟩ := hI
    refine ⟨by rw [i3]; exact sumT_in o _, trivial, ?_⟩
    exact so_next (by omega) ⟨i1, i2, i3⟩ (of_decide_eq_true hk)
  · have h := of_decide_eq_true (ye_not h)
    rw [e1] at h
    have h2 := of_decide_eq_true (ye_not h2)
    have hr6 := ordZ_in o.R
    have hz : zerV (timT n t) = true := ye_not hz
    have hn := ls_end hL hz
    obtain ⟨i1, i2, i3⟩ := hI
    have hk := of_decide_eq_false hk
    have ht : t = sumT o (ordZ o.R).toNat := by rw [i3]; congr 1; omega
    have he0 : oroE o = 0 := by unfold oroE; rw [if_pos h, ← he, h2]
    have hl := lst_ok t
    rw [hn] at hl
    have hB := mulB (a := r) (b := n) 6 24 (by omega) (by omega) (by omega) (by omega)
    unfold oroZ
    rw [he0, if_pos rfl, ← ht, hn, w64_id (by omega) (by omega), hr]
theorem s_opOrder : Sound Try.prog 28 C_opOrder :=
  sound_of_eq (env0_ok (.cons s_opcheck (.cons s_Order.hid (.cons s_opshift (.cons s_fAdd (.cons s_fTimes (.nil))))))) (fun x => T_opOrder x.1) r_opOrder fun x ok hp => p_opOrder x.1 ok.1
noncomputable def C_opKind : Contract := { args := [.agg .op], res := [.int .i64, .int .i64], pre := fun _ => True, F := fun x => ((kinZ x.1 : Int), (kinE x.1 : Int), ()) }
def T_opKind (o : Op3) : Prop :=
  (True ∧
(((!(decide (errL [o] = 0))) = true →
 (0, (errL [o], ())) = (kinZ o, (kinE o, ()))) ∧
((!(decide (errL [o] = 0))) = false →
(True ∧
∀ z2 : Int,
(z2 = selI (errM o.R) (w64 (detZ o.R)) →
∀ z4 : Int,
(z4 = errM o.R →
(True ∧
∀ z6 : Int,
(z6 = ordZ ((M3.mk ((w64 (o.R.xx * z2))) ((w64 (o.R.xy * z2))) ((w64 (o.R.xz * z2))) ((w64 (o.R.yx * z2))) ((w64 (o.R.yy * z2))) ((w64 (o.R.yz * z2))) ((w64 (o.R.zx * z2))) ((w64 (o.R.zy * z2))) ((w64 (o.R.zz * z2))))) →
∀ z8 : Int,
(z8 = ordE ((M3.mk ((w64 (o.R.xx * z2))) ((w64 (o.R.xy * z2))) ((w64 (o.R.xz * z2))) ((w64 (o.R.yx * z2))) ((w64 (o.R.yy * z2))) ((w64 (o.R.yz * z2))) ((w64 (o.R.zx * z2))) ((w64 (o.R.zy * z2))) ((w64 (o.R.zz * z2))))) →
((w64 (z2 * z6)), (z8, ())) = (kinZ o, (kinE o, ())))))))))))
theorem r_opKind (x : HL C_opKind.args) : runs (env0 [(36, C_opcheck), (58, C_Det.hid), (54, C_Order.hid)] [] []) 400 29 C_opKind x = T_opKind x.1 := by kernel_rfl
theorem p_opKind (o : Op3) (h0 : (Sh.agg .op).okA o) : T_opKind o := by
  have e1 := errL_one o
  by_cases he : errO o = 0
  · have hF := errO_ok.1 he
    have hd := hF.d
    have hdB := detZ_B hF.B
    have hw : w64 (detZ o.R) = detZ o.R := w64_id (by omega) (by omega)
    have hm : errM o.R = 0 := errM_B (by decide) hF.B
    have hs : M3.mk (w64 (o.R.xx * detZ o.R)) (w64 (o.R.xy * detZ o.R)) (w64 (o.R.xz * detZ o.R)) (w64 (o.R.yx * detZ o.R)) (w64 (o.R.yy * detZ o.R)) (w64 (o.R.yz * detZ o.R)) (w64 (o.R.zx * detZ o.R)) (w64 (o.R.zy * detZ o.R)) (w64 (o.R.zz * detZ o.R)) = scaZ (detZ o.R) o.R :=
      wM_id (by decide) (sca_B hF.B hd)
    have hk : kinE o = ordE (scaZ (detZ o.R) o.R) := by unfold kinE; rw [if_pos he]
    have h6 := ordZ_in (scaZ (detZ o.R) o.R)
    have hz : w64 (detZ o.R * ordZ (scaZ (detZ o.R) o.R)) = kinZ o := by
      have w1 : w64 (detZ o.R * ordZ (scaZ (detZ o.R) o.R)) = detZ o.R * ordZ (scaZ (detZ o.R) o.R) := by
        generalize ordZ (scaZ (detZ o.R) o.R) = q at h6 ⊢
        rcases hd with e | e <;> rw [e] <;> exact w64_id (by omega) (by omega)
      rw [w1]
      unfold kinZ; rw [hk]
      by_cases h0 : ordE (scaZ (detZ o.R) o.R) = 0
      · rw [if_pos h0]
      · rw [if_neg h0]
        have : ordZ (scaZ (detZ o.R) o.R) = 0 := by
          by_cases hu : uniE (scaZ (detZ o.R) o.R) = 0
          · rw [(ord_vals hu).1]
            rw [(ord_vals hu).2] at h0
            by_cases hr : rordX (scaZ (detZ o.R) o.R) = 0
            · exact hr
            · rw [if_neg hr] at h0; exact absurd rfl h0
          · unfold ordZ ordR; rw [if_neg hu]
        rw [this, Int.mul_zero]
    refine ⟨trivial, fun h => absurd (e1.trans he) (of_decide_eq_false (no_not h)), fun _ => ⟨trivial, fun d hd' e2 _ => ⟨trivial, fun r hr e hre => ?_⟩⟩⟩
    have hdd : d = detZ o.R := by rw [hd', hm, hw]; rfl
    subst hdd
    rw [hs] at hr hre
    rw [hr, hre, hz, hk]
  · have hk : kinE o = errO o := by unfold kinE; rw [if_neg he]
    simp [T_opKind, e1, he, hk, kinZ]
theorem s_opKind : Sound Try.prog 29 C_opKind :=
  sound_of_eq (env0_ok (.cons s_opcheck (.cons s_Det.hid (.cons s_Order.hid (.nil))))) (fun x => T_opKind x.1) r_opKind fun x ok hp => p_opKind x.1 ok.1
end Go.Fx
