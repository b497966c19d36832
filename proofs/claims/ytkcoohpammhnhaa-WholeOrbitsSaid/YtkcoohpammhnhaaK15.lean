/-
  Contracts: OrbitParts.
-/
import Derived.Test.YtkcoohpammhnhaaK14
namespace Go.Fx
open Go Go.Proofs
set_option maxRecDepth 100000
set_option linter.unusedVariables false
set_option linter.unusedSimpArgs false
set_option linter.unusedSectionVars false
noncomputable def C_OrbitParts : Contract := { args := [.list .op, .agg .pt, .agg .pt], res := [.bool], pre := fun _ => True, F := fun x => ((true : Bool), ()) }
def T_OrbitParts (g : List Op3) (p : Pt) (q : Pt) : Prop :=
  (True ∧
∀ z3 : Bool,
(z3 = true →
(((!z3) = true →
 (false, ()) = (true, ())) ∧
((!z3) = false →
(True ∧
(True ∧
(True ∧
(True ∧
(True ∧
(True ∧
(True ∧
(True ∧
(((!(saB g p q == saB g q p)) = true →
 (false, ()) = (true, ())) ∧
((!(saB g p q == saB g q p)) = false →
(((!(decide (saE g p q = saE g q p))) = true →
 (false, ()) = (true, ())) ∧
((!(decide (saE g p q = saE g q p))) = false →
(((!(decide (ocE g [p] = 0))) = true →
 ((!(decide (saE g p q = 0))), ()) = (true, ())) ∧
((!(decide (ocE g [p] = 0))) = false →
(((!(decide (ocE g [q] = 0))) = true →
 ((!(decide (saE g p q = 0))), ()) = (true, ())) ∧
((!(decide (ocE g [q] = 0))) = false →
(((!(decide (p.M = q.M))) = true →
 ((decide (saE g p q = 6)), ()) = (true, ())) ∧
((!(decide (p.M = q.M))) = false →
(coP (ofL g p) (ofL g q) 0 0 ∧
∀ z11 : Int,
((decide ((-9223372036854775808) ≤ z11)) = true →
((decide (z11 ≤ 9223372036854775807)) = true →
∀ z14 : Int,
((decide ((-9223372036854775808) ≤ z14)) = true →
((decide (z14 ≤ 9223372036854775807)) = true →
(coP (ofL g p) (ofL g q) z11 z14 →
(((decide (z14 < ((ofL g p).length : Int))) = true →
 (inB (ofL g p) z14 ∧
 (coI (ofL g p) (ofL g q) z14 z11 0 ∧
 ∀ z19 : Int,
 ((decide ((-9223372036854775808) ≤ z19)) = true →
 ((decide (z19 ≤ 9223372036854775807)) = true →
 ∀ z22 : Int,
 ((decide ((-9223372036854775808) ≤ z22)) = true →
 ((decide (z22 ≤ 9223372036854775807)) = true →
 (coI (ofL g p) (ofL g q) z14 z19 z22 →
 (((decide (z22 < ((ofL g q).length : Int))) = true →
  (inB (ofL g q) z22 ∧
  ((((decide ((((ofL g p).getD (z14).toNat (Pt.mk 0 (V3.mk 0 0 0)))).M = (((ofL g q).getD (z22).toNat (Pt.mk 0 (V3.mk 0 0 0)))).M)) && ((decide (((((ofL g p).getD (z14).toNat (Pt.mk 0 (V3.mk 0 0 0)))).X).x = ((((ofL g q).getD (z22).toNat (Pt.mk 0 (V3.mk 0 0 0)))).X).x)) && ((decide (((((ofL g p).getD (z14).toNat (Pt.mk 0 (V3.mk 0 0 0)))).X).y = ((((ofL g q).getD (z22).toNat (Pt.mk 0 (V3.mk 0 0 0)))).X).y)) && ((decide (((((ofL g p).getD (z14).toNat (Pt.mk 0 (V3.mk 0 0 0)))).X).z = ((((ofL g q).getD (z22).toNat (Pt.mk 0 (V3.mk 0 0 0)))).X).z)) && true)))) = true →
   (coI (ofL g p) (ofL g q) z14 ((w64 (z19 + 1))) ((w64 (z22 + 1))) ∧
   ((decide (0 ≤ lnX (ofL g q) ((w64 (z22 + 1))))) = true ∧
   (decide (lnX (ofL g q) ((w64 (z22 + 1))) < lnX (ofL g q) z22)) = true))) ∧
  (((decide ((((ofL g p).getD (z14).toNat (Pt.mk 0 (V3.mk 0 0 0)))).M = (((ofL g q).getD (z22).toNat (Pt.mk 0 (V3.mk 0 0 0)))).M)) && ((decide (((((ofL g p).getD (z14).toNat (Pt.mk 0 (V3.mk 0 0 0)))).X).x = ((((ofL g q).getD (z22).toNat (Pt.mk 0 (V3.mk 0 0 0)))).X).x)) && ((decide (((((ofL g p).getD (z14).toNat (Pt.mk 0 (V3.mk 0 0 0)))).X).y = ((((ofL g q).getD (z22).toNat (Pt.mk 0 (V3.mk 0 0 0)))).X).y)) && ((decide (((((ofL g p).getD (z14).toNat (Pt.mk 0 (V3.mk 0 0 0)))).X).z = ((((ofL g q).getD (z22).toNat (Pt.mk 0 (V3.mk 0 0 0)))).X).z)) && true)))) = false →
  (coI (ofL g p) (ofL g q) z14 z19 ((w64 (z22 + 1))) ∧
  ((decide (0 ≤ lnX (ofL g q) ((w64 (z22 + 1))))) = true ∧
  (decide (lnX (ofL g q) ((w64 (z22 + 1))) < lnX (ofL g q) z22)) = true)))))) ∧
 ((decide (z22 < ((ofL g q).length : Int))) = false →
 (coP (ofL g p) (ofL g q) z19 ((w64 (z14 + 1))) ∧
 ((decide (0 ≤ lnX (ofL g p) ((w64 (z14 + 1))))) = true ∧
 (decide (lnX (ofL g p) ((w64 (z14 + 1))) < lnX (ofL g p) z14)) = true)))))))))))) ∧
((decide (z14 < ((ofL g p).length : Int))) = false →
(((decide (saE g p q = 0)) = true →
 ((saB g p q = true →
  (((decide (z11 = ((ofL g p).length : Int))) = true →
   (((decide (z11 = ((ofL g q).length : Int))) = true →
    (true, ()) = (true, ())) ∧
   ((decide (z11 = ((ofL g q).length : Int))) = false →
   (((!saB g p q) = true →
    ((decide (z11 = 0)), ()) = (true, ())) ∧
   ((!saB g p q) = false →
   (false, ()) = (true, ())))))) ∧
  ((decide (z11 = ((ofL g p).length : Int))) = false →
  (((!saB g p q) = true →
   ((decide (z11 = 0)), ()) = (true, ())) ∧
  ((!saB g p q) = false →
  (false, ()) = (true, ())))))) ∧
 (saB g p q = false →
 (((!saB g p q) = true →
  ((decide (z11 = 0)), ()) = (true, ())) ∧
 ((!saB g p q) = false →
 (false, ()) = (true, ())))))) ∧
((decide (saE g p q = 0)) = false →
(false, ()) = (true, ())))))))))))))))))))))))))))))))))
theorem r_OrbitParts (x : HL C_OrbitParts.args) : runs (env0 [(10, C_awake9.hid), (12, C_r5Twin.hid), (11, C_oOf.hid), (20, C_oSame.hid)] [(8, 15, { fix := [(.tmp 75, .list .pt), (.tmp 9, .list .pt)], vars := [(.tmp 15, .int .i64), (.tmp 77, .int .i64)], inv := fun y v => coP y.1 y.2.1 v.1 v.2.1, mu := fun y v => lnX y.1 v.2.1 }), (8, 18, { fix := [(.tmp 75, .list .pt), (.tmp 81, .list .pt), (.tmp 77, .int .i64)], vars := [(.tmp 15, .int .i64), (.tmp 83, .int .i64)], inv := fun y v => coI y.1 y.2.1 y.2.2.1 v.1 v.2.1, mu := fun y v => lnX y.2.1 v.2.1 })] []) 400 8 C_OrbitParts x = T_OrbitParts x.1 x.2.1 x.2.2.1 := by kernel_rfl
theorem p_OrbitParts (g : List Op3) (p : Pt) (q : Pt) (h0 : (Sh.list .op).okA g) (h1 : (Sh.agg .pt).okA p) (h2 : (Sh.agg .pt).okA q) : T_OrbitParts g p q := by
  unfold T_OrbitParts
  simp only [eqPc]
  refine ⟨trivial, fun z hz => ⟨fun h => absurd (hz ▸ h) (by decide), fun _ => ⟨trivial, trivial, trivial, trivial, trivial, trivial, trivial, trivial, ?_⟩⟩⟩
  obtain ⟨sB, sE⟩ := sa_sym g p q
  rw [← sB, ← sE]
  refine ⟨fun h => absurd h (by simp), fun _ => ⟨fun h => absurd h (by simp), fun _ => ⟨fun h => ?_, fun h => ⟨fun h2 => ?_, fun h2 => ⟨fun h3 => ?_, fun h3 => ?_⟩⟩⟩⟩⟩
  · have h : ocE g [p] ≠ 0 := by simpa using h
    rw [decide_eq_false (sa_bad (.inl h))]; rfl
  · have h2 : ocE g [q] ≠ 0 := by simpa using h2
    rw [decide_eq_false (sa_bad (.inr h2))]; rfl
  · have hz : ocE g [p] = 0 := by simpa using h
    have hq : ocE g [q] = 0 := by simpa using h2
    have h3 : p.M ≠ q.M := by simpa using h3
    rw [decide_eq_true (sa_unlike hz hq h3)]
  have hz : ocE g [p] = 0 := by simpa using h
  have hq : ocE g [q] = 0 := by simpa using h2
  have hm : p.M = q.M := by simpa using h3
  obtain ⟨s1, s2⟩ := sa_iff hz hq hm
  obtain ⟨o1, o2⟩ := orb_cases hz hq
  have hl2 : g.length ≤ 192 := (oc_P hz).2.2
  have lp := of_len hz
  have lq := of_len hq
  have lnX1 : ∀ (l : List Pt) (k : Int), l.length ≤ 192 → 0 ≤ k → k < (l.length : Int) → w64 (k + 1) = k + 1 ∧ (decide (0 ≤ lnX l (k + 1)) = true ∧ decide (lnX l (k + 1) < lnX l k) = true) := fun l k hl k0 hk => ⟨w64_id (by omega) (by omega), decide_eq_true (by unfold lnX; omega), decide_eq_true (by unfold lnX; omega)⟩
  rw [s1, s2]
  refine ⟨cmn_init _ _, fun c _ _ i _ _ hC => ⟨fun hi => ?_, fun hi => ?_⟩⟩
  · have hi := of_decide_eq_true hi
    refine ⟨⟨hC.1, hi⟩, coi_init hC, fun d _ _ k _ _ hI => ⟨fun hk => ?_, fun hk => ?_⟩⟩
    · have hk := of_decide_eq_true hk
      obtain ⟨n1, n2⟩ := coi_next hI hk
      obtain ⟨b1, b2⟩ := coi_bnd hI (by omega) (by omega)
      obtain ⟨e1, m1⟩ := lnX1 _ _ (by omega) hI.1 hk
      rw [e1, w64_id (x := d + 1) (by omega) (by omega)]
      exact ⟨⟨hI.1, hk⟩, fun e => ⟨n1 (of_decide_eq_true e), m1⟩, fun e => ⟨n2 (of_decide_eq_false e), m1⟩⟩
    · obtain ⟨e1, m1⟩ := lnX1 _ _ (by omega) hC.1 hi
      rw [e1]
      exact ⟨cmn_next hC hi hI (of_decide_eq_false hk), m1⟩
  · have hc : c = (coS (ofL g p) (ofL g q) : Int) := by rw [hC.2.2, take_end (of_decide_eq_false hi)]
    refine ⟨fun _ => ?_, fun h => absurd h (by decide)⟩
    by_cases hm2 : q ∈ imP g p
    · rw [decide_eq_true hm2]
      obtain ⟨e1, _⟩ := o1 hm2
      have hc1 : c = ((ofL g p).length : Int) := by rw [hc, e1, coS_one fun x hx => cnt_nodup (of_nodup hz) hx]
      rw [e1, decide_eq_true hc1]
      exact ⟨fun _ => ⟨fun _ => ⟨fun _ => by trivial, fun h => absurd h (by decide)⟩, fun h => absurd h (by decide)⟩, fun h => absurd h (by decide)⟩
    · rw [decide_eq_false hm2]
      have hc0 : c = 0 := by rw [hc, coS_none (o2 hm2).2]; rfl
      exact ⟨fun h => absurd h (by decide), fun _ => ⟨fun _ => by rw [hc0]; rfl, fun h => absurd h (by decide)⟩⟩
theorem s_OrbitParts : Sound Try.prog 8 C_OrbitParts :=
  sound_of_eq (env0_ok (.cons s_awake9.hid (.cons s_r5Twin.hid (.cons s_oOf.hid (.cons s_oSame.hid (.nil)))))) (fun x => T_OrbitParts x.1 x.2.1 x.2.2.1) r_OrbitParts fun x ok hp => p_OrbitParts x.1 x.2.1 x.2.2.1 ok.1 ok.2.1 ok.2.2.1
end Go.Fx
