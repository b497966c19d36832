/-
  Contracts: OrbitKeeps.
-/
import Derived.Test.YtkcoohpammhnhaaK17
namespace Go.Fx
open Go Go.Proofs
set_option maxRecDepth 100000
set_option linter.unusedVariables false
set_option linter.unusedSimpArgs false
set_option linter.unusedSectionVars false
noncomputable def C_OrbitKeeps : Contract := { args := [.list .op, .agg .pt], res := [.bool], pre := fun x => rchO x.1, F := fun x => ((true : Bool), ()) }
def T_OrbitKeeps (g : List Op3) (p : Pt) : Prop :=
  (True ∧
∀ z2 : Bool,
(z2 = true →
(((!z2) = true →
 (false, ()) = (true, ())) ∧
((!z2) = false →
(True ∧
∀ z5 : List Op3,
(z5 = g →
(lfit 96 (lapp z5 ([(Op3.mk zerO.R (V3.mk 9 9 9))])) ∧
((leP 0 0 ∧
 (leP 0 (g.length : Int) ∧
 leP (g.length : Int) (((lapp z5 ([(Op3.mk zerO.R (V3.mk 9 9 9))])).length : Int)))) ∧
(True ∧
∀ z7 : List Pt,
(z7 = ofL (lsub (lapp z5 ([(Op3.mk zerO.R (V3.mk 9 9 9))])) 0 (g.length : Int)) p →
∀ z9 : Int,
(z9 = ocE (lsub (lapp z5 ([(Op3.mk zerO.R (V3.mk 9 9 9))])) 0 (g.length : Int)) [p] →
(True ∧
∀ z11 : List Pt,
(z11 = ofL (lsub (lapp z5 ([(Op3.mk zerO.R (V3.mk 9 9 9))])) 0 (g.length : Int)) p →
∀ z13 : Int,
(z13 = ocE (lsub (lapp z5 ([(Op3.mk zerO.R (V3.mk 9 9 9))])) 0 (g.length : Int)) [p] →
(True ∧
∀ z15 : List Int,
(z15 = siL (lsub (lapp z5 ([(Op3.mk zerO.R (V3.mk 9 9 9))])) 0 (g.length : Int)) p →
∀ z17 : Int,
(z17 = ocE (lsub (lapp z5 ([(Op3.mk zerO.R (V3.mk 9 9 9))])) 0 (g.length : Int)) [p] →
(True ∧
∀ z19 : List Int,
(z19 = siL (lsub (lapp z5 ([(Op3.mk zerO.R (V3.mk 9 9 9))])) 0 (g.length : Int)) p →
∀ z21 : Int,
(z21 = ocE (lsub (lapp z5 ([(Op3.mk zerO.R (V3.mk 9 9 9))])) 0 (g.length : Int)) [p] →
(True ∧
∀ z23 : List Pt,
(z23 = ofL g p →
∀ z25 : Int,
(z25 = ocE g [p] →
(True ∧
∀ z27 : List Int,
(z27 = siL g p →
∀ z29 : Int,
(z29 = ocE g [p] →
(True ∧
∀ z31 : Bool,
(z31 = smO (lsub (lapp z5 ([(Op3.mk zerO.R (V3.mk 9 9 9))])) 0 (g.length : Int)) g →
(((!z31) = true →
 (false, ()) = (true, ())) ∧
((!z31) = false →
(inB (lapp z5 ([(Op3.mk zerO.R (V3.mk 9 9 9))])) (g.length : Int) ∧
(((!(decide (((((lapp z5 ([(Op3.mk zerO.R (V3.mk 9 9 9))])).getD ((g.length : Int)).toNat zerO)).T).x = 9))) = true →
 (false, ()) = (true, ())) ∧
((!(decide (((((lapp z5 ([(Op3.mk zerO.R (V3.mk 9 9 9))])).getD ((g.length : Int)).toNat zerO)).T).x = 9))) = false →
(True ∧
∀ z35 : Bool,
(z35 = smX z7 z23 →
(((!z35) = true →
 (false, ()) = (true, ())) ∧
((!z35) = false →
(True ∧
∀ z38 : Bool,
(z38 = smX z11 z23 →
(((!z38) = true →
 (false, ()) = (true, ())) ∧
((!z38) = false →
(True ∧
∀ z41 : Bool,
(z41 = smI z15 z27 →
(((!z41) = true →
 (false, ()) = (true, ())) ∧
((!z41) = false →
(True ∧
∀ z44 : Bool,
(z44 = smI z19 z27 →
(((!z44) = true →
 (false, ()) = (true, ())) ∧
((!z44) = false →
(rgP (z7.length : Int) 0 ∧
∀ z47 : List Pt,
∀ z48 : Int,
((decide ((-9223372036854775808) ≤ z48)) = true →
((decide (z48 ≤ 9223372036854775807)) = true →
(rgP (z47.length : Int) z48 →
(eqP (z47.length : Int) (z7.length : Int) →
(((decide (z48 < (z7.length : Int))) = true →
 (True ∧
 (inB z47 z48 ∧
 (rgP (((lset z47 z48 ((Pt.mk 24 (V3.mk 7 7 7)))).length : Int)) ((w64 (z48 + 1))) ∧
 ((decide (0 ≤ lnX (lset z47 z48 ((Pt.mk 24 (V3.mk 7 7 7)))) ((w64 (z48 + 1))))) = true ∧
 (decide (lnX (lset z47 z48 ((Pt.mk 24 (V3.mk 7 7 7)))) ((w64 (z48 + 1))) < lnX z47 z48)) = true))))) ∧
((decide (z48 < (z7.length : Int))) = false →
(rgP (z15.length : Int) 0 ∧
∀ z54 : List Int,
∀ z55 : Int,
((decide ((-9223372036854775808) ≤ z55)) = true →
((decide (z55 ≤ 9223372036854775807)) = true →
(rgP (z54.length : Int) z55 →
(eqP (z54.length : Int) (z15.length : Int) →
(((decide (z55 < (z15.length : Int))) = true →
 (inB z54 z55 ∧
 (rgP (((lset z54 z55 (-7)).length : Int)) ((w64 (z55 + 1))) ∧
 ((decide (0 ≤ inMu (lset z54 z55 (-7)) ((w64 (z55 + 1))))) = true ∧
 (decide (inMu (lset z54 z55 (-7)) ((w64 (z55 + 1))) < inMu z54 z55)) = true)))) ∧
((decide (z55 < (z15.length : Int))) = false →
(True ∧
(lfit 32 (lapp z47 ([(Pt.mk 24 (V3.mk 8 8 8))])) ∧
(lfit 8 (lapp z54 [(-8)]) ∧
(True ∧
∀ z61 : Bool,
(z61 = smX z11 z23 →
(((!z61) = true →
 (false, ()) = (true, ())) ∧
((!z61) = false →
(True ∧
∀ z64 : Bool,
(z64 = smI z19 z27 →
(((!z64) = true →
 (false, ()) = (true, ())) ∧
((!z64) = false →
(True ∧
(lfit 32 (lapp z11 ([(Pt.mk 24 (V3.mk 9 9 9))])) ∧
(lfit 8 (lapp z19 [(-9)]) ∧
(inB (lapp z47 ([(Pt.mk 24 (V3.mk 8 8 8))])) ((((lapp z47 ([(Pt.mk 24 (V3.mk 8 8 8))])).length : Int) - 1)) ∧
(True ∧
((((decide ((((lapp z47 ([(Pt.mk 24 (V3.mk 8 8 8))])).getD ((((lapp z47 ([(Pt.mk 24 (V3.mk 8 8 8))])).length : Int) - 1)).toNat (Pt.mk 0 (V3.mk 0 0 0)))).M = 24)) && ((decide (((((lapp z47 ([(Pt.mk 24 (V3.mk 8 8 8))])).getD ((((lapp z47 ([(Pt.mk 24 (V3.mk 8 8 8))])).length : Int) - 1)).toNat (Pt.mk 0 (V3.mk 0 0 0)))).X).x = 8)) && ((decide (((((lapp z47 ([(Pt.mk 24 (V3.mk 8 8 8))])).getD ((((lapp z47 ([(Pt.mk 24 (V3.mk 8 8 8))])).length : Int) - 1)).toNat (Pt.mk 0 (V3.mk 0 0 0)))).X).y = 8)) && ((decide (((((lapp z47 ([(Pt.mk 24 (V3.mk 8 8 8))])).getD ((((lapp z47 ([(Pt.mk 24 (V3.mk 8 8 8))])).length : Int) - 1)).toNat (Pt.mk 0 (V3.mk 0 0 0)))).X).z = 8)) && true)))) = true →
 (inB (lapp z54 [(-8)]) ((((lapp z54 [(-8)]).length : Int) - 1)) ∧
 (((decide (((lapp z54 [(-8)]).getD ((((lapp z54 [(-8)]).length : Int) - 1)).toNat 0) = (-8))) = true →
  (inB (lapp z11 ([(Pt.mk 24 (V3.mk 9 9 9))])) ((((lapp z11 ([(Pt.mk 24 (V3.mk 9 9 9))])).length : Int) - 1)) ∧
  (True ∧
  ((((decide ((((lapp z11 ([(Pt.mk 24 (V3.mk 9 9 9))])).getD ((((lapp z11 ([(Pt.mk 24 (V3.mk 9 9 9))])).length : Int) - 1)).toNat (Pt.mk 0 (V3.mk 0 0 0)))).M = 24)) && ((decide (((((lapp z11 ([(Pt.mk 24 (V3.mk 9 9 9))])).getD ((((lapp z11 ([(Pt.mk 24 (V3.mk 9 9 9))])).length : Int) - 1)).toNat (Pt.mk 0 (V3.mk 0 0 0)))).X).x = 9)) && ((decide (((((lapp z11 ([(Pt.mk 24 (V3.mk 9 9 9))])).getD ((((lapp z11 ([(Pt.mk 24 (V3.mk 9 9 9))])).length : Int) - 1)).toNat (Pt.mk 0 (V3.mk 0 0 0)))).X).y = 9)) && ((decide (((((lapp z11 ([(Pt.mk 24 (V3.mk 9 9 9))])).getD ((((lapp z11 ([(Pt.mk 24 (V3.mk 9 9 9))])).length : Int) - 1)).toNat (Pt.mk 0 (V3.mk 0 0 0)))).X).z = 9)) && true)))) = true →
   (inB (lapp z19 [(-9)]) ((((lapp z19 [(-9)]).length : Int) - 1)) ∧
   ((decide (((lapp z19 [(-9)]).getD ((((lapp z19 [(-9)]).length : Int) - 1)).toNat 0) = (-9))), ()) = (true, ()))) ∧
  (((decide ((((lapp z11 ([(Pt.mk 24 (V3.mk 9 9 9))])).getD ((((lapp z11 ([(Pt.mk 24 (V3.mk 9 9 9))])).length : Int) - 1)).toNat (Pt.mk 0 (V3.mk 0 0 0)))).M = 24)) && ((decide (((((lapp z11 ([(Pt.mk 24 (V3.mk 9 9 9))])).getD ((((lapp z11 ([(Pt.mk 24 (V3.mk 9 9 9))])).length : Int) - 1)).toNat (Pt.mk 0 (V3.mk 0 0 0)))).X).x = 9)) && ((decide (((((lapp z11 ([(Pt.mk 24 (V3.mk 9 9 9))])).getD ((((lapp z11 ([(Pt.mk 24 (V3.mk 9 9 9))])).length : Int) - 1)).toNat (Pt.mk 0 (V3.mk 0 0 0)))).X).y = 9)) && ((decide (((((lapp z11 ([(Pt.mk 24 (V3.mk 9 9 9))])).getD ((((lapp z11 ([(Pt.mk 24 (V3.mk 9 9 9))])).length : Int) - 1)).toNat (Pt.mk 0 (V3.mk 0 0 0)))).X).z = 9)) && true)))) = false →
  (false, ()) = (true, ())))))) ∧
 ((decide (((lapp z54 [(-8)]).getD ((((lapp z54 [(-8)]).length : Int) - 1)).toNat 0) = (-8))) = false →
 (false, ()) = (true, ()))))) ∧
(((decide ((((lapp z47 ([(Pt.mk 24 (V3.mk 8 8 8))])).getD ((((lapp z47 ([(Pt.mk 24 (V3.mk 8 8 8))])).length : Int) - 1)).toNat (Pt.mk 0 (V3.mk 0 0 0)))).M = 24)) && ((decide (((((lapp z47 ([(Pt.mk 24 (V3.mk 8 8 8))])).getD ((((lapp z47 ([(Pt.mk 24 (V3.mk 8 8 8))])).length : Int) - 1)).toNat (Pt.mk 0 (V3.mk 0 0 0)))).X).x = 8)) && ((decide (((((lapp z47 ([(Pt.mk 24 (V3.mk 8 8 8))])).getD ((((lapp z47 ([(Pt.mk 24 (V3.mk 8 8 8))])).length : Int) - 1)).toNat (Pt.mk 0 (V3.mk 0 0 0)))).X).y = 8)) && ((decide (((((lapp z47 ([(Pt.mk 24 (V3.mk 8 8 8))])).getD ((((lapp z47 ([(Pt.mk 24 (V3.mk 8 8 8))])).length : Int) - 1)).toNat (Pt.mk 0 (V3.mk 0 0 0)))).X).z = 8)) && true)))) = false →
(false, ()) = (true, ()))))))))))))))))))))))))))))))))))))))))))))))))))))))))))))))))))))))))))))))))))
theorem r_OrbitKeeps (x : HL C_OrbitKeeps.args) : runs (env0 [(10, C_awake9.hid), (12, C_r5Twin.hid), (11, C_oOf.hid), (15, C_oSite.hid), (13, C_r9DocOf.hid), (16, C_r9DocSite.hid), (22, C_r5Same.hid), (14, C_r9SamePoints.hid), (17, C_ints9.hid), (23, C_at9)] [(5, 14, { fix := [], vars := [(.itmp 7, .list .pt), (.tmp 109, .int .i64)], inv := fun y v => rgP (lenI v.1) v.2.1, mu := fun y v => lnX v.1 v.2.1 }), (5, 19, { fix := [], vars := [(.itmp 11, .list .int), (.tmp 119, .int .i64)], inv := fun y v => rgP (lenI v.1) v.2.1, mu := fun y v => inMu v.1 v.2.1 })] []) 400 5 C_OrbitKeeps x = T_OrbitKeeps x.1 x.2.1 := by kernel_rfl
theorem p_OrbitKeeps (g : List Op3) (p : Pt) (h0 : (Sh.list .op).okA g) (h1 : (Sh.agg .pt).okA p) (hp : rchO g) : T_OrbitKeeps g p := by
  unfold T_OrbitKeeps
  simp only [lastG]
  have hr : g.length * 96 ≤ 140737488351232 := hp
  refine ⟨trivial, fun z hz => ⟨fun h => absurd (hz ▸ h) (by decide), fun _ => ⟨trivial, fun a ha => ?_⟩⟩⟩
  rw [ha]
  have k1 : lsub (lapp g [Op3.mk zerO.R (V3.mk 9 9 9)]) 0 (g.length : Int) = g := spare_sub g _
  have k2 : (lapp g [Op3.mk zerO.R (V3.mk 9 9 9)]).getD ((g.length : Int)).toNat zerO = Op3.mk zerO.R (V3.mk 9 9 9) := spare_0 g _ zerO
  have k3 : (lapp g [Op3.mk zerO.R (V3.mk 9 9 9)]).length = g.length + 1 := by unfold lapp; rw [List.length_append]; rfl
  rw [k1, k2]
  have lp := ofL_len g p
  have ls := siL_len g p
  have fitX : ∀ (l : List Pt) (x : Pt), l.length ≤ g.length → lfit 32 (lapp l [x]) := fun l x h => by
    show (l ++ [x]).length * 32 ≤ 140737488355328
    rw [List.length_append]; simp only [List.length_singleton]; omega
  have fitI : ∀ (l : List Int) (x : Int), l.length ≤ g.length → lfit 8 (lapp l [x]) := fun l x h => by
    show (l ++ [x]).length * 8 ≤ 140737488355328
    rw [List.length_append]; simp only [List.length_singleton]; omega
  refine ⟨?_, ⟨Int.le_refl _, by show (0 : Int) ≤ _; omega, by show (_ : Int) ≤ _; omega⟩, trivial, fun x1 h1 e1 he1 => ⟨trivial, fun x2 h2 e2 he2 => ⟨trivial, fun s1 hs1 f1 hf1 => ⟨trivial, fun s2 hs2 f2 hf2 => ⟨trivial, fun w hw e3 he3 => ⟨trivial, fun u hu e4 he4 => ⟨trivial, fun b hb => ⟨fun h => absurd h (by rw [hb, smO_self]; decide), fun _ => ⟨⟨by show (0 : Int) ≤ _; omega, by rw [k3]; omega⟩, fun h => absurd h (by decide), fun _ => ?_⟩⟩⟩⟩⟩⟩⟩⟩⟩
  · show (lapp g _).length * 96 ≤ 140737488355328
    rw [k3]; omega
  have d1 : ∀ (l m : List Pt) (c : Bool), l = m → c = smX l m → ¬ (!c) = true := fun l m c h hc => by rw [hc, h]; simp [smX]
  have d2 : ∀ (l m : List Int) (c : Bool), l = m → c = smI l m → ¬ (!c) = true := fun l m c h hc => by rw [hc, h]; simp [smI]
  refine ⟨trivial, fun c1 hc1 => ⟨fun h => absurd h (d1 _ _ _ (h1.trans hw.symm) hc1), fun _ => ⟨trivial, fun c2 hc2 => ⟨fun h => absurd h (d1 _ _ _ (h2.trans hw.symm) hc2), fun _ => ⟨trivial, fun c3 hc3 => ⟨fun h => absurd h (d2 _ _ _ (hs1.trans hu.symm) hc3), fun _ => ⟨trivial, fun c4 hc4 => ⟨fun h => absurd h (d2 _ _ _ (hs2.trans hu.symm) hc4), fun _ => ⟨rg_init x1, fun t i _ _ hI hlt => ⟨fun hi => ?_, fun _ => ⟨rg_init s1, fun r j _ _ hJ hlr => ⟨fun hj => ?_, fun _ => ?_⟩⟩⟩⟩⟩⟩⟩⟩⟩⟩⟩⟩
  · have hi := of_decide_eq_true hi
    have hlt : (t.length : Int) = (x1.length : Int) := hlt
    have i0 := hI.1
    have lx : x1.length ≤ g.length := by rw [h1]; exact lp
    rw [w64_id (x := i + 1) (by omega) (by omega)]
    exact ⟨trivial, ⟨i0, by omega⟩, ⟨by omega, by rw [lset_len]; omega⟩, decide_eq_true (by unfold lnX; rw [lset_len]; omega), decide_eq_true (by unfold lnX; rw [lset_len]; omega)⟩
  · have hj := of_decide_eq_true hj
    have hlr : (r.length : Int) = (s1.length : Int) := hlr
    have j0 := hJ.1
    have lx : s1.length ≤ g.length := by rw [hs1]; exact ls
    rw [w64_id (x := j + 1) (by omega) (by omega)]
    exact ⟨⟨j0, by omega⟩, ⟨by omega, by rw [lset_len]; omega⟩, decide_eq_true (by unfold inMu; rw [lset_len]; omega), decide_eq_true (by unfold inMu; rw [lset_len]; omega)⟩
  · have hlt : (t.length : Int) = (x1.length : Int) := hlt
    have hlr : (r.length : Int) = (s1.length : Int) := hlr
    have lx : x1.length ≤ g.length := by rw [h1]; exact lp
    have lx2 : x2.length ≤ g.length := by rw [h2]; exact lp
    have ly : s1.length ≤ g.length := by rw [hs1]; exact ls
    have ly2 : s2.length ≤ g.length := by rw [hs2]; exact ls
    exact ⟨trivial, fitX t _ (by omega), fitI r _ (by omega), trivial, fun c5 hc5 => ⟨fun h => absurd h (d1 _ _ _ (h2.trans hw.symm) hc5), fun _ => ⟨trivial, fun c6 hc6 => ⟨fun h => absurd h (d2 _ _ _ (hs2.trans hu.symm) hc6), fun _ => ⟨trivial, fitX x2 _ lx2, fitI s2 _ ly2, lastG_in _ _, trivial, fun _ => ⟨lastG_in _ _, fun _ => ⟨lastG_in _ _, trivial, fun _ => ⟨lastG_in _ _, by decide⟩, fun h => absurd h (by decide)⟩, fun h => absurd h (by decide)⟩, fun h => absurd h (by decide)⟩⟩⟩⟩⟩
theorem s_OrbitKeeps : Sound Try.prog 5 C_OrbitKeeps :=
  sound_of_eq (env0_ok (.cons s_awake9.hid (.cons s_r5Twin.hid (.cons s_oOf.hid (.cons s_oSite.hid (.cons s_r9DocOf.hid (.cons s_r9DocSite.hid (.cons s_r5Same.hid (.cons s_r9SamePoints.hid (.cons s_ints9.hid (.cons s_at9 (.nil)))))))))))) (fun x => T_OrbitKeeps x.1 x.2.1) r_OrbitKeeps fun x ok hp => p_OrbitKeeps x.1 x.2.1 ok.1 ok.2.1 hp
end Go.Fx
