/-
  Contracts: r3DocPower, r3DocOrder, r3DocKind, r3Place, r3Apply, r3DocApply, r3flat, r3Compare.
-/
import Derived.Test.YthljaepanhdmiaaK12
namespace Go.Fx
open Go Go.Proofs
set_option maxRecDepth 100000
set_option linter.unusedVariables false
noncomputable def C_r3DocPower : Contract := { args := [.agg .op, .int .i64], res := [.agg .op, .int .i64], pre := fun _ => True, F := fun x => ((powO x.1 x.2.1 : Op3), (powE x.1 x.2.1 : Int), ()) }
def T_r3DocPower (o : Op3) (n : Int) : Prop :=
  (((decide (n < (-1000))) = true →
 ((Op3.mk (M3.mk 0 0 0 0 0 0 0 0 0) (V3.mk 0 0 0)), (1, ())) = (powO o n, (powE o n, ()))) ∧
((decide (n < (-1000))) = false →
(((decide (1000 < n)) = true →
 ((Op3.mk (M3.mk 0 0 0 0 0 0 0 0 0) (V3.mk 0 0 0)), (1, ())) = (powO o n, (powE o n, ()))) ∧
((decide (1000 < n)) = false →
(True ∧
∀ z4 : Int,
(z4 = errO o →
(((!(decide (z4 = 0))) = true →
 ((Op3.mk (M3.mk 0 0 0 0 0 0 0 0 0) (V3.mk 0 0 0)), (z4, ())) = (powO o n, (powE o n, ()))) ∧
((!(decide (z4 = 0))) = false →
(((decide (n < 0)) = true →
 (frmO o ∧
 ∀ z8 : Op3,
 (z8 = invO o →
 (True ∧
 ∀ z10 : Op3,
 (z10 = selO (errM z8.R) z8 →
 ∀ z12 : Int,
 (z12 = errM z8.R →
 (((!(decide (z12 = 0))) = true →
  ((Op3.mk (M3.mk 0 0 0 0 0 0 0 0 0) (V3.mk 0 0 0)), (z12, ())) = (powO o n, (powE o n, ()))) ∧
 ((!(decide (z12 = 0))) = false →
 (True ∧
 (dpInv o n z10 ((w64 (0 - n))) oneO ∧
 ∀ z15 : Int,
 ((decide ((-9223372036854775808) ≤ z15)) = true →
 ((decide (z15 ≤ 9223372036854775807)) = true →
 ∀ z18 : Op3,
 (dpInv o n z10 z15 z18 →
 (((decide (0 < z15)) = true →
  (mulPre z10 z18 ∧
  ∀ z21 : Op3,
  (z21 = mulO z10 z18 →
  (True ∧
  ∀ z23 : Op3,
  (z23 = selO (errM z21.R) z21 →
  ∀ z25 : Int,
  (z25 = errM z21.R →
  (((!(decide (z25 = 0))) = true →
   ((Op3.mk (M3.mk 0 0 0 0 0 0 0 0 0) (V3.mk 0 0 0)), (z25, ())) = (powO o n, (powE o n, ()))) ∧
  ((!(decide (z25 = 0))) = false →
  (dpInv o n z10 ((w64 (z15 - 1))) z23 ∧
  ((decide (0 ≤ pwMu ((w64 (z15 - 1))))) = true ∧
  (decide (pwMu ((w64 (z15 - 1))) < pwMu z15)) = true)))))))))) ∧
 ((decide (0 < z15)) = false →
 (z18, (0, ())) = (powO o n, (powE o n, ()))))))))))))))))) ∧
((decide (n < 0)) = false →
(True ∧
(dpInv o n o n oneO ∧
∀ z8 : Int,
((decide ((-9223372036854775808) ≤ z8)) = true →
((decide (z8 ≤ 9223372036854775807)) = true →
∀ z11 : Op3,
(dpInv o n o z8 z11 →
(((decide (0 < z8)) = true →
 (mulPre o z11 ∧
 ∀ z14 : Op3,
 (z14 = mulO o z11 →
 (True ∧
 ∀ z16 : Op3,
 (z16 = selO (errM z14.R) z14 →
 ∀ z18 : Int,
 (z18 = errM z14.R →
 (((!(decide (z18 = 0))) = true →
  ((Op3.mk (M3.mk 0 0 0 0 0 0 0 0 0) (V3.mk 0 0 0)), (z18, ())) = (powO o n, (powE o n, ()))) ∧
 ((!(decide (z18 = 0))) = false →
 (dpInv o n o ((w64 (z8 - 1))) z16 ∧
 ((decide (0 ≤ pwMu ((w64 (z8 - 1))))) = true ∧
 (decide (pwMu ((w64 (z8 - 1))) < pwMu z8)) = true)))))))))) ∧
((decide (0 < z8)) = false →
(z11, (0, ())) = (powO o n, (powE o n, ())))))))))))))))))))
theorem r_r3DocPower (x : HL C_r3DocPower.args) : runs (env [(20, C_r3Check.hid), (60, C_r3Back.hid), (56, C_r3small.hid), (22, C_r3One), (57, C_r3Mul.hid)] [(30, 13, { fix := [(.cell 2, .agg .op)], vars := [(.tmp 1, .int .i64), (.cell 8, .agg .op)], inv := fun y v => dpInv x.1 x.2.1 y.1 v.1 v.2.1, mu := fun y v => pwMu v.1 })]) 400 30 C_r3DocPower x = T_r3DocPower x.1 x.2.1 := by kernel_rfl
theorem p_r3DocPower (o : Op3) (n : Int) (h0 : (Sh.agg .op).okA o) (h1 : (Sh.int .i64).okA n) : T_r3DocPower o n := by
  refine ⟨fun h => pw_far (.inl (of_decide_eq_true h)), fun h1 => ⟨fun h => pw_far (.inr (of_decide_eq_true h)), fun h2 => ⟨trivial, fun e he => ⟨fun h => ?_, fun h => ?_⟩⟩⟩⟩
  · have h1 := of_decide_eq_false h1
    have h2 := of_decide_eq_false h2
    have h := of_decide_eq_false (no_not h)
    have init := pw_init (o := o) (n := n) ⟨by omega, by omega⟩
    have f : powF o n = e := by unfold powF; rw [← he, if_neg h]
    rw [f] at init
    have := pw_done h1 h2 init (.inl h)
    unfold selO at this; rw [if_neg h] at this; exact this
  have h1 := of_decide_eq_false h1
  have h2 := of_decide_eq_false h2
  have h := of_decide_eq_true (ye_not h)
  rw [he] at h
  have init := pw_init (o := o) (n := n) ⟨by omega, by omega⟩
  have loop : ∀ {w p : Op3} {k : Int}, dpInv o n w k p → (((decide (0 < k)) = true → (mulPre w p ∧ ∀ z : Op3, (z = mulO w p → (True ∧ ∀ y : Op3, (y = selO (errM z.R) z → ∀ f : Int, (f = errM z.R → (((!(decide (f = 0))) = true → ((Op3.mk (M3.mk 0 0 0 0 0 0 0 0 0) (V3.mk 0 0 0)), (f, ())) = (powO o n, (powE o n, ()))) ∧
      ((!(decide (f = 0))) = false → (dpInv o n w (w64 (k - 1)) y ∧ ((decide (0 ≤ pwMu (w64 (k - 1)))) = true ∧ (decide (pwMu (w64 (k - 1)) < pwMu k)) = true)))))))))) ∧ ((decide (0 < k)) = false → (p, ((0 : Int), ())) = (powO o n, (powE o n, ())))) := fun {w p k} hD => by
    have hI := pw_dp hD
    refine ⟨fun hk => ?_, fun hk => pw_done h1 h2 hI (.inr (of_decide_eq_false hk))⟩
    obtain ⟨j1, j2, j3, j4⟩ := hI.2.1 rfl
    refine ⟨sml_pre j3 j4, fun z hz => ⟨trivial, fun y hy f hf => ?_⟩⟩
    have nx := pw_next hI (of_decide_eq_true hk) (show y = _ by rw [hy, hz]) (show f = _ by rw [hf, hz])
    refine ⟨fun hff => ?_, fun hff => ?_⟩
    · have hff := of_decide_eq_false (no_not hff)
      have := pw_done h1 h2 nx.1 (.inl hff)
      unfold selO at this; rw [if_neg hff] at this; exact this
    · have hff := of_decide_eq_true (ye_not hff)
      subst hff
      exact ⟨dp_pw nx.1, nx.2⟩
  refine ⟨fun h4 => ⟨h, fun v hv => ⟨trivial, fun w hw f hf => ⟨fun hff => ?_, fun hff => ⟨trivial, ?_, fun k _ _ p hI => loop hI⟩⟩⟩⟩, fun h4 => ⟨trivial, ?_, fun k _ _ p hI => loop hI⟩⟩
  · have h4 := of_decide_eq_true h4
    have hff := of_decide_eq_false (no_not hff)
    have fe : powF o n = f := by unfold powF; rw [if_pos h, if_pos h4]; unfold invE; rw [if_pos h, hf, hv]; rfl
    rw [fe] at init
    have := pw_done h1 h2 init (.inl hff)
    unfold selO at this; rw [if_neg hff] at this; exact this
  · have h4 := of_decide_eq_true h4
    have hff := of_decide_eq_true (ye_not hff)
    have hi : invE o = errM v.R := by unfold invE; rw [if_pos h, hv]; rfl
    have fe : powF o n = 0 := by unfold powF; rw [if_pos h, if_pos h4, hi, ← hf, hff]
    have b : powB o n = w := by unfold powB; rw [if_pos ⟨h, h4⟩, hw, hi, hv]
    rw [if_pos ⟨h, h4⟩, b, fe] at init
    rw [w64_id (by omega) (by omega), Int.zero_sub]; exact dp_pw init
  · have h4 := of_decide_eq_false h4
    have fe : powF o n = 0 := by unfold powF; rw [if_pos h, if_neg h4]
    have b : powB o n = o := by unfold powB; rw [if_neg fun h => h4 h.2]
    rw [if_neg (fun h => h4 h.2), b, fe] at init
    exact dp_pw init
theorem s_r3DocPower : Sound Try.prog 30 C_r3DocPower :=
  sound_of_eqs (fun x => env [(20, C_r3Check.hid), (60, C_r3Back.hid), (56, C_r3small.hid), (22, C_r3One), (57, C_r3Mul.hid)] [(30, 13, { fix := [(.cell 2, .agg .op)], vars := [(.tmp 1, .int .i64), (.cell 8, .agg .op)], inv := fun y v => dpInv x.1 x.2.1 y.1 v.1 v.2.1, mu := fun y v => pwMu v.1 })]) (fun _ => rfl) (fun _ => env_ok (.cons s_r3Check.hid (.cons s_r3Back.hid (.cons s_r3small.hid (.cons s_r3One (.cons s_r3Mul.hid (.nil))))))) (fun x => T_r3DocPower x.1 x.2.1) r_r3DocPower fun x ok hp => p_r3DocPower x.1 x.2.1 ok.1 ok.2.1
noncomputable def C_r3DocOrder : Contract := { args := [.agg .op], res := [.int .i64, .int .i64], pre := fun _ => True, F := fun x => ((droZ x.1 : Int), (droE x.1 : Int), ()) }
def T_r3DocOrder (o : Op3) : Prop :=
  (True ∧
∀ z1 : Int,
(z1 = errO o →
(((!(decide (z1 = 0))) = true →
 (0, (z1, ())) = (droZ o, (droE o, ()))) ∧
((!(decide (z1 = 0))) = false →
(True ∧
∀ z4 : Int,
(z4 = rkiZ o.R →
(True ∧
∀ z6 : Int,
(z6 = oofZ z4 →
(((decide (z6 = 0)) = true →
 (0, (9, ())) = (droZ o, (droE o, ()))) ∧
((decide (z6 = 0)) = false →
(doInv o z6 0 (V3.mk 0 0 0) o.T ∧
∀ z9 : Int,
((decide ((-9223372036854775808) ≤ z9)) = true →
((decide (z9 ≤ 9223372036854775807)) = true →
∀ z12 : V3,
∀ z13 : V3,
(doInv o z6 z9 z12 z13 →
(((decide (z9 < z6)) = true →
 (True ∧
 ∀ z16 : V3,
 (z16 = wV (addV z12 z13) →
 (inM 24 ∧
 ∀ z18 : V3,
 (z18 = modV 24 z16 →
 (True ∧
 ∀ z20 : V3,
 (z20 = wV (appZ o.R z13) →
 (inM 24 ∧
 ∀ z22 : V3,
 (z22 = modV 24 z20 →
 (doInv o z6 ((w64 (z9 + 1))) z18 z22 ∧
 ((decide (0 ≤ subMu z6 ((w64 (z9 + 1))))) = true ∧
 (decide (subMu z6 ((w64 (z9 + 1))) < subMu z6 z9)) = true))))))))))) ∧
((decide (z9 < z6)) = false →
(nneg2 24 z12.x ∧
(nneg2 (gcdI 24 z12.x) z12.y ∧
(nneg2 (gcdI (gcdI 24 z12.x) z12.y) z12.z ∧
((gcdI (gcdI (gcdI 24 z12.x) z12.y) z12.z ≠ 0) ∧
((w64 ((z6 * (Int.tdiv 24 (gcdI (gcdI (gcdI 24 z12.x) z12.y) z12.z))))), (0, ())) = (droZ o, (droE o, ()))))))))))))))))))))))
theorem r_r3DocOrder (x : HL C_r3DocOrder.args) : runs (env [(20, C_r3Check.hid), (42, C_r3Kind.hid), (41, C_r3OrderOf.hid), (44, C_r3Add.hid), (43, C_r3Bring.hid), (45, C_r3Column.hid), (46, C_r3gcd.hid)] [(14, 10, { fix := [(.cell 1, .agg .op), (.tmp 5, .int .i64)], vars := [(.tmp 8, .int .i64), (.cell 6, .agg .vec), (.cell 7, .agg .vec)], inv := fun y v => doInv y.1 y.2.1 v.1 v.2.1 v.2.2.1, mu := fun y v => subMu y.2.1 v.1 })]) 400 14 C_r3DocOrder x = T_r3DocOrder x.1 := by kernel_rfl
theorem p_r3DocOrder (o : Op3) (h0 : (Sh.agg .op).okA o) : T_r3DocOrder o := by
  refine ⟨trivial, fun e he => ⟨fun h => ?_, fun h => ⟨trivial, fun q hq => ⟨trivial, fun n hn => ⟨fun h2 => ?_, fun h2 => ⟨⟨by omega, .inr rfl, rfl, rfl⟩, fun k _ _ s t hI => ⟨fun hk => ?_, fun hk => ?_⟩⟩⟩⟩⟩⟩⟩
  · have h := of_decide_eq_false (no_not h)
    rw [he] at h
    unfold droZ droE droR; rw [if_neg h, he]
  · have h := of_decide_eq_true (ye_not h)
    rw [he] at h
    have h2 := of_decide_eq_true h2
    rw [hn, hq] at h2
    unfold droZ droE droR; rw [if_pos h, if_pos h2]
  · have h := of_decide_eq_true (ye_not h)
    rw [he] at h
    have hF := errO_ok.1 h
    have hn6 : n ≤ 1000000 := by
      rw [hn, hq, oof_kind hF.B hF.d]
      have := rordX_vals o.R
      omega
    exact ⟨trivial, fun z hz => ⟨k24, fun y hy => ⟨trivial, fun u hu => ⟨k24, fun v hv => do_next hF hn6 hI (of_decide_eq_true hk) (by rw [hy, hz]) (by rw [hv, hu])⟩⟩⟩⟩
  · have h := of_decide_eq_true (ye_not h)
    rw [he] at h
    have hF := errO_ok.1 h
    have h2 := of_decide_eq_false h2
    obtain ⟨i1, i2, i3, i4⟩ := hI
    have hk := of_decide_eq_false hk
    have hn0 : 0 ≤ n := by
      rw [hn, hq, oof_kind hF.B hF.d]
      have := rordX_vals o.R
      omega
    have hs : s = sumT o n.toNat := by rw [i3]; congr 1; omega
    obtain ⟨⟨a1, a2⟩, ⟨b1, b2⟩, c1, c2⟩ := inT_iff.1 (show inT s = true by rw [hs]; exact sumT_in o _)
    obtain ⟨g1, g2⟩ := gcd24_pos s.x s.y s.z
    have nn : ∀ x y : Int, 0 ≤ gcdI x y := fun x y => Int.natCast_nonneg _
    refine ⟨⟨by decide, a1⟩, ⟨nn _ _, b1⟩, ⟨nn _ _, c1⟩, by omega, ?_⟩
    have td : Int.tdiv 24 (gcdI (gcdI (gcdI 24 s.x) s.y) s.z) = 24 / gcdI (gcdI (gcdI 24 s.x) s.y) s.z := Int.tdiv_eq_ediv_of_nonneg (by decide)
    rw [td]
    rw [hn, hq] at h2
    unfold droZ droE droR; rw [if_pos h, if_neg h2, ← hq, ← hn, ← hs]
theorem s_r3DocOrder : Sound Try.prog 14 C_r3DocOrder :=
  sound_of_eq (env_ok (.cons s_r3Check.hid (.cons s_r3Kind.hid (.cons s_r3OrderOf.hid (.cons s_r3Add.hid (.cons s_r3Bring.hid (.cons s_r3Column.hid (.cons s_r3gcd.hid (.nil))))))))) (fun x => T_r3DocOrder x.1) r_r3DocOrder fun x ok hp => p_r3DocOrder x.1 ok.1
noncomputable def C_r3DocKind : Contract := { args := [.agg .op], res := [.int .i64, .int .i64], pre := fun _ => True, F := fun x => ((dkiZ x.1 : Int), (dkiE x.1 : Int), ()) }
def T_r3DocKind (o : Op3) : Prop :=
  (True ∧
∀ z1 : Int,
(z1 = errO o →
(((!(decide (z1 = 0))) = true →
 (0, (z1, ())) = (dkiZ o, (dkiE o, ()))) ∧
((!(decide (z1 = 0))) = false →
(True ∧
∀ z4 : Int,
(z4 = rkiZ o.R →
(((decide (z4 = 0)) = true →
 (0, (9, ())) = (dkiZ o, (dkiE o, ()))) ∧
((decide (z4 = 0)) = false →
(z4, (0, ())) = (dkiZ o, (dkiE o, ()))))))))))
theorem r_r3DocKind (x : HL C_r3DocKind.args) : runs (env [(20, C_r3Check.hid), (42, C_r3Kind.hid)] []) 400 16 C_r3DocKind x = T_r3DocKind x.1 := by kernel_rfl
theorem p_r3DocKind (o : Op3) (h0 : (Sh.agg .op).okA o) : T_r3DocKind o := by
  by_cases h : errO o = 0 <;> by_cases h2 : rkiZ o.R = 0 <;> simp [T_r3DocKind, dkiZ, dkiE, h, h2]
theorem s_r3DocKind : Sound Try.prog 16 C_r3DocKind :=
  sound_of_eq (env_ok (.cons s_r3Check.hid (.cons s_r3Kind.hid (.nil)))) (fun x => T_r3DocKind x.1) r_r3DocKind fun x ok hp => p_r3DocKind x.1 ok.1
noncomputable def C_r3Place : Contract := { args := [.agg .pt], res := [.bool], pre := fun _ => True, F := fun x => ((frmP x.1 : Bool), ()) }
def T_r3Place (p : Pt) : Prop :=
  (((!(decide (p.M = 24))) = true →
 (((!(decide (p.M = 48))) = true →
  (((!(decide (p.M = 96))) = true →
   (((!(decide (p.M = 192))) = true →
    (false, ()) = (frmP p, ())) ∧
   ((!(decide (p.M = 192))) = false →
   (inM p.M ∧
   (((decide (p.X.x = (modV p.M p.X).x)) && ((decide (p.X.y = (modV p.M p.X).y)) && ((decide (p.X.z = (modV p.M p.X).z)) && true))), ()) = (frmP p, ()))))) ∧
  ((!(decide (p.M = 96))) = false →
  (inM p.M ∧
  (((decide (p.X.x = (modV p.M p.X).x)) && ((decide (p.X.y = (modV p.M p.X).y)) && ((decide (p.X.z = (modV p.M p.X).z)) && true))), ()) = (frmP p, ()))))) ∧
 ((!(decide (p.M = 48))) = false →
 (inM p.M ∧
 (((decide (p.X.x = (modV p.M p.X).x)) && ((decide (p.X.y = (modV p.M p.X).y)) && ((decide (p.X.z = (modV p.M p.X).z)) && true))), ()) = (frmP p, ()))))) ∧
((!(decide (p.M = 24))) = false →
(inM p.M ∧
(((decide (p.X.x = (modV p.M p.X).x)) && ((decide (p.X.y = (modV p.M p.X).y)) && ((decide (p.X.z = (modV p.M p.X).z)) && true))), ()) = (frmP p, ()))))
theorem r_r3Place (x : HL C_r3Place.args) : runs (env [(43, C_r3Bring.hid)] []) 400 33 C_r3Place x = T_r3Place x.1 := by kernel_rfl
theorem p_r3Place (p : Pt) (h0 : (Sh.agg .pt).okA p) : T_r3Place p := by
  have key : rgtM p.M = true → (decide (p.X.x = (modV p.M p.X).x) && (decide (p.X.y = (modV p.M p.X).y) && (decide (p.X.z = (modV p.M p.X).z) && true)), ()) = (frmP p, ()) := fun hr => by
    have hm := (rgt_in hr).1
    have e : ∀ x : Int, (x = x % p.M) ↔ (0 ≤ x ∧ x < p.M) := fun x => ⟨fun h => by rw [h]; exact ⟨Int.emod_nonneg _ (by omega), Int.emod_lt_of_pos _ (by omega)⟩, fun h => (Int.emod_eq_of_lt h.1 h.2).symm⟩
    congr 1
    rw [Bool.eq_iff_iff, frmP_iff, ← rgt_iff]
    simp only [Bool.and_eq_true, decide_eq_true_eq, modV, e, hr, true_and, and_true]
  have no : rgtM p.M = false → (false, ()) = (frmP p, ()) := fun hr => by
    congr 1
    symm; rw [Bool.eq_false_iff]; intro h
    rw [frmP_rgt h] at hr; exact absurd hr (by decide)
  by_cases h1 : p.M = 24
  · have hr : rgtM p.M = true := rgt_iff.2 (.inl h1)
    have hi := rgt_in hr
    have k := key hr
    simp only [T_r3Place, h1, decide_true, Bool.not_true] at *
    simp_all
  by_cases h2 : p.M = 48
  · have hr : rgtM p.M = true := rgt_iff.2 (.inr (.inl h2))
    have hi := rgt_in hr
    have k := key hr
    simp_all [T_r3Place]
  by_cases h3 : p.M = 96
  · have hr : rgtM p.M = true := rgt_iff.2 (.inr (.inr (.inl h3)))
    have hi := rgt_in hr
    have k := key hr
    simp_all [T_r3Place]
  by_cases h4 : p.M = 192
  · have hr : rgtM p.M = true := rgt_iff.2 (.inr (.inr (.inr h4)))
    have hi := rgt_in hr
    have k := key hr
    simp_all [T_r3Place]
  have hr : rgtM p.M = false := by rw [Bool.eq_false_iff]; exact fun h => by rcases rgt_iff.1 h with h | h | h | h <;> contradiction
  have k := no hr
  simp_all [T_r3Place]
theorem s_r3Place : Sound Try.prog 33 C_r3Place :=
  sound_of_eq (env_ok (.cons s_r3Bring.hid (.nil))) (fun x => T_r3Place x.1) r_r3Place fun x ok hp => p_r3Place x.1 ok.1
noncomputable def C_r3Apply : Contract := { args := [.agg .op, .agg .pt], res := [.agg .pt], pre := fun x => appPre x.1 x.2.1, F := fun x => ((appX x.1 x.2.1 : Pt), ()) }
def T_r3Apply (o : Op3) (p : Pt) : Prop :=
  (True ∧
∀ z2 : V3,
(z2 = wV (appZ o.R p.X) →
(inM p.M ∧
((Pt.mk p.M (modV p.M ((V3.mk ((w64 ((z2.x + (w64 ((o.T.x * (Int.tdiv p.M 24)))))))) ((w64 ((z2.y + (w64 ((o.T.y * (Int.tdiv p.M 24)))))))) ((w64 ((z2.z + (w64 ((o.T.z * (Int.tdiv p.M 24)))))))))))), ()) = (appX o p, ()))))
theorem r_r3Apply (x : HL C_r3Apply.args) : runs (env [(45, C_r3Column.hid), (43, C_r3Bring.hid)] []) 400 68 C_r3Apply x = T_r3Apply x.1 x.2.1 := by kernel_rfl
theorem p_r3Apply (o : Op3) (p : Pt) (h0 : (Sh.agg .op).okA o) (h1 : (Sh.agg .pt).okA p) (hp : appPre o p) : T_r3Apply o p := by
  obtain ⟨p1, p2⟩ := hp
  have hF := errO_ok.1 p1
  have hr := frmP_rgt p2
  obtain ⟨q0, q1, q2, q3⟩ := frmP_iff.1 p2
  have hB : BndV 192 p.X := ⟨⟨by omega, by omega⟩, ⟨by omega, by omega⟩, ⟨by omega, by omega⟩⟩
  have hA := appB hF.B hB
  refine ⟨trivial, fun z hz => ⟨rgt_in hr, ?_⟩⟩
  rw [wV_id (by decide) hA] at hz
  subst hz
  have ht := inT_B hF.T
  have key : ∀ x t : Int, -576000 ≤ x → x ≤ 576000 → -24 ≤ t → t ≤ 24 → w64 (x + w64 (t * Int.tdiv p.M 24)) = x + p.M / 24 * t := fun x t x1 x2 t1 t2 => by
    have q : Int.tdiv 24 24 = 1 ∧ Int.tdiv 48 24 = 2 ∧ Int.tdiv 96 24 = 4 ∧ Int.tdiv 192 24 = 8 := by decide
    have d : (24 : Int) / 24 = 1 ∧ (48 : Int) / 24 = 2 ∧ (96 : Int) / 24 = 4 ∧ (192 : Int) / 24 = 8 := by decide
    rcases q0 with h | h | h | h <;> rw [h]
    · rw [q.1, d.1, w64_id (x := t * 1) (by omega) (by omega), w64_id (by omega) (by omega)]; omega
    · rw [q.2.1, d.2.1, w64_id (x := t * 2) (by omega) (by omega), w64_id (by omega) (by omega)]; omega
    · rw [q.2.2.1, d.2.2.1, w64_id (x := t * 4) (by omega) (by omega), w64_id (by omega) (by omega)]; omega
    · rw [q.2.2.2, d.2.2.2, w64_id (x := t * 8) (by omega) (by omega), w64_id (by omega) (by omega)]; omega
  obtain ⟨⟨u1, u2⟩, ⟨u3, u4⟩, u5, u6⟩ := hA
  rw [key _ _ u1 u2 ht.1.1 ht.1.2, key _ _ u3 u4 ht.2.1.1 ht.2.1.2, key _ _ u5 u6 ht.2.2.1 ht.2.2.2]
  rfl
theorem s_r3Apply : Sound Try.prog 68 C_r3Apply :=
  sound_of_eq (env_ok (.cons s_r3Column.hid (.cons s_r3Bring.hid (.nil)))) (fun x => T_r3Apply x.1 x.2.1) r_r3Apply fun x ok hp => p_r3Apply x.1 x.2.1 ok.1 ok.2.1 hp
noncomputable def C_r3DocApply : Contract := { args := [.agg .op, .agg .pt], res := [.agg .pt, .int .i64], pre := fun _ => True, F := fun x => ((appP x.1 x.2.1 : Pt), (appE x.1 x.2.1 : Int), ()) }
def T_r3DocApply (o : Op3) (p : Pt) : Prop :=
  (True ∧
∀ z2 : Int,
(z2 = errO o →
(True ∧
∀ z4 : Bool,
(z4 = frmP p →
(((!z4) = true →
 ((Pt.mk 0 (V3.mk 0 0 0)), (3, ())) = (appP o p, (appE o p, ()))) ∧
((!z4) = false →
(((!(decide (z2 = 0))) = true →
 ((Pt.mk 0 (V3.mk 0 0 0)), (z2, ())) = (appP o p, (appE o p, ()))) ∧
((!(decide (z2 = 0))) = false →
(appPre o p ∧
∀ z8 : Pt,
(z8 = appX o p →
(z8, (0, ())) = (appP o p, (appE o p, ()))))))))))))
theorem r_r3DocApply (x : HL C_r3DocApply.args) : runs (env [(20, C_r3Check.hid), (33, C_r3Place.hid), (68, C_r3Apply.hid)] []) 400 32 C_r3DocApply x = T_r3DocApply x.1 x.2.1 := by kernel_rfl
theorem p_r3DocApply (o : Op3) (p : Pt) (h0 : (Sh.agg .op).okA o) (h1 : (Sh.agg .pt).okA p) : T_r3DocApply o p := by
  by_cases he : errO o = 0 <;> cases hp : frmP p
  · simp [T_r3DocApply, he, hp, appP, appE, zerP]
  · have hpre : appPre o p := ⟨he, hp⟩
    simp [T_r3DocApply, he, hp, appP, appE, hpre]
  · simp [T_r3DocApply, he, hp, appP, appE, zerP]
  · simp [T_r3DocApply, he, hp, appP, appE, zerP]
theorem s_r3DocApply : Sound Try.prog 32 C_r3DocApply :=
  sound_of_eq (env_ok (.cons s_r3Check.hid (.cons s_r3Place.hid (.cons s_r3Apply.hid (.nil))))) (fun x => T_r3DocApply x.1 x.2.1) r_r3DocApply fun x ok hp => p_r3DocApply x.1 x.2.1 ok.1 ok.2.1
noncomputable def C_r3flat : Contract := { args := [.agg .op], res := [.agg .op], pre := fun _ => True, F := fun x => ((x.1 : Op3), ()) }
def T_r3flat (o : Op3) : Prop :=
  (o, ()) = (o, ())
theorem r_r3flat (x : HL C_r3flat.args) : runs (env [] []) 400 63 C_r3flat x = T_r3flat x.1 := by kernel_rfl
theorem p_r3flat (o : Op3) (h0 : (Sh.agg .op).okA o) : T_r3flat o := by
  rfl
theorem s_r3flat : Sound Try.prog 63 C_r3flat :=
  sound_of_eq (env_ok (.nil)) (fun x => T_r3flat x.1) r_r3flat fun x ok hp => p_r3flat x.1 ok.1
noncomputable def C_r3Compare : Contract := { args := [.agg .op, .agg .op], res := [.int .i64], pre := fun _ => True, F := fun x => ((cmpO x.1 x.2.1 : Int), ()) }
def T_r3Compare (a : Op3) (b : Op3) : Prop :=
  (True ∧
(True ∧
(((decide (a.R.xx < b.R.xx)) = true →
 ((-1), ()) = (cmpO a b, ())) ∧
((decide (a.R.xx < b.R.xx)) = false →
(((decide (b.R.xx < a.R.xx)) = true →
 (1, ()) = (cmpO a b, ())) ∧
((decide (b.R.xx < a.R.xx)) = false →
(((decide (a.R.xy < b.R.xy)) = true →
 ((-1), ()) = (cmpO a b, ())) ∧
((decide (a.R.xy < b.R.xy)) = false →
(((decide (b.R.xy < a.R.xy)) = true →
 (1, ()) = (cmpO a b, ())) ∧
((decide (b.R.xy < a.R.xy)) = false →
(((decide (a.R.xz < b.R.xz)) = true →
 ((-1), ()) = (cmpO a b, ())) ∧
((decide (a.R.xz < b.R.xz)) = false →
(((decide (b.R.xz < a.R.xz)) = true →
 (1, ()) = (cmpO a b, ())) ∧
((decide (b.R.xz < a.R.xz)) = false →
(((decide (a.R.yx < b.R.yx)) = true →
 ((-1), ()) = (cmpO a b, ())) ∧
((decide (a.R.yx < b.R.yx)) = false →
(((decide (b.R.yx < a.R.yx)) = true →
 (1, ()) = (cmpO a b, ())) ∧
((decide (b.R.yx < a.R.yx)) = false →
(((decide (a.R.yy < b.R.yy)) = true →
 ((-1), ()) = (cmpO a b, ())) ∧
((decide (a.R.yy < b.R.yy)) = false →
(((decide (b.R.yy < a.R.yy)) = true →
 (1, ()) = (cmpO a b, ())) ∧
((decide (b.R.yy < a.R.yy)) = false →
(((decide (a.R.yz < b.R.yz)) = true →
 ((-1), ()) = (cmpO a b, ())) ∧
((decide (a.R.yz < b.R.yz)) = false →
(((decide (b.R.yz < a.R.yz)) = true →
 (1, ()) = (cmpO a b, ())) ∧
((decide (b.R.yz < a.R.yz)) = false →
(((decide (a.R.zx < b.R.zx)) = true →
 ((-1), ()) = (cmpO a b, ())) ∧
((decide (a.R.zx < b.R.zx)) = false →
(((decide (b.R.zx < a.R.zx)) = true →
 (1, ()) = (cmpO a b, ())) ∧
((decide (b.R.zx < a.R.zx)) = false →
(((decide (a.R.zy < b.R.zy)) = true →
 ((-1), ()) = (cmpO a b, ())) ∧
((decide (a.R.zy < b.R.zy)) = false →
(((decide (b.R.zy < a.R.zy)) = true →
 (1, ()) = (cmpO a b, ())) ∧
((decide (b.R.zy < a.R.zy)) = false →
(((decide (a.R.zz < b.R.zz)) = true →
 ((-1), ()) = (cmpO a b, ())) ∧
((decide (a.R.zz < b.R.zz)) = false →
(((decide (b.R.zz < a.R.zz)) = true →
 (1, ()) = (cmpO a b, ())) ∧
((decide (b.R.zz < a.R.zz)) = false →
(((decide (a.T.x < b.T.x)) = true →
 ((-1), ()) = (cmpO a b, ())) ∧
((decide (a.T.x < b.T.x)) = false →
(((decide (b.T.x < a.T.x)) = true →
 (1, ()) = (cmpO a b, ())) ∧
((decide (b.T.x < a.T.x)) = false →
(((decide (a.T.y < b.T.y)) = true →
 ((-1), ()) = (cmpO a b, ())) ∧
((decide (a.T.y < b.T.y)) = false →
(((decide (b.T.y < a.T.y)) = true →
 (1, ()) = (cmpO a b, ())) ∧
((decide (b.T.y < a.T.y)) = false →
(((decide (a.T.z < b.T.z)) = true →
 ((-1), ()) = (cmpO a b, ())) ∧
((decide (a.T.z < b.T.z)) = false →
(((decide (b.T.z < a.T.z)) = true →
 (1, ()) = (cmpO a b, ())) ∧
((decide (b.T.z < a.T.z)) = false →
(0, ()) = (cmpO a b, ())))))))))))))))))))))))))))))))))))))))))))))))))))
theorem r_r3Compare (x : HL C_r3Compare.args) : runs (env [(63, C_r3flat)] []) 400 28 C_r3Compare x = T_r3Compare x.1 x.2.1 := by kernel_rfl
theorem p_r3Compare (a : Op3) (b : Op3) (h0 : (Sh.agg .op).okA a) (h1 : (Sh.agg .op).okA b) : T_r3Compare a b := by
  unfold T_r3Compare
  rw [cmpO_lex]
  simp only [decide_eq_true_eq, decide_eq_false_iff_not]
  repeat' (first | apply And.intro | intro _ | exact trivial)
  all_goals simp [Op3.row, lexL, cmpE, *]
theorem s_r3Compare : Sound Try.prog 28 C_r3Compare :=
  sound_of_eq (env_ok (.cons s_r3flat (.nil))) (fun x => T_r3Compare x.1 x.2.1) r_r3Compare fun x ok hp => p_r3Compare x.1 x.2.1 ok.1 ok.2.1
end Go.Fx
