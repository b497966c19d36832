/-
  Contracts: screw14, awake14, AbsentIs, AbsentSorts, AbsentParts.
-/
import Derived.Test.YteldhhdgihmocaaK13
import Derived.Test.YteldhhdgihmocaaFb
namespace Go.Fx
open Go Go.Proofs
set_option maxRecDepth 100000
set_option linter.unusedVariables false
set_option linter.unusedSimpArgs false
set_option linter.unusedSectionVars false
noncomputable def C_screw14 : Contract := { args := [], res := [.list .op], pre := fun _ => True, F := fun x => ((scrw : List Op3), ()) }
def T_screw14  : Prop :=
  (True ∧
([(Op3.mk ((M3.mk (-1) 0 0 0 1 0 0 0 (-1))) (V3.mk 0 12 0)), oneO], ()) = (scrw, ()))
theorem r_screw14 (x : HL C_screw14.args) : runs (env0 [(21, C_opOne)] [] []) 400 22 C_screw14 x = T_screw14  := by kernel_rfl
theorem p_screw14   : T_screw14  := by
  exact ⟨trivial, rfl⟩
theorem s_screw14 : Sound Try.prog 22 C_screw14 :=
  sound_of_eq (env0_ok (.cons s_opOne (.nil))) (fun x => T_screw14 ) r_screw14 fun x ok hp => p_screw14  
noncomputable def C_awake14 : Contract := { args := [], res := [.bool], pre := fun _ => True, F := fun x => ((true : Bool), ()) }
def T_awake14  : Prop :=
  (True ∧
∀ z0 : List Op3,
(z0 = scrw →
(True ∧
∀ z2 : Bool,
(z2 = isB z0 (V3.mk 0 1 0) →
∀ z4 : Int,
(z4 = isE z0 (V3.mk 0 1 0) →
(True ∧
∀ z6 : List Op3,
(z6 = scrw →
(True ∧
∀ z8 : Bool,
(z8 = isB z6 (V3.mk 0 2 0) →
∀ z10 : Int,
(z10 = isE z6 (V3.mk 0 2 0) →
(True ∧
∀ z12 : List Op3,
(z12 = scrw →
(True ∧
∀ z14 : Int,
(z14 = ceI z12 (V3.mk 1 0 1) →
∀ z16 : Bool,
(z16 = ceB z12 (V3.mk 1 0 1) →
∀ z18 : Int,
(z18 = isE z12 (V3.mk 1 0 1) →
(((decide (z4 = 0)) = true →
 (((decide (z10 = 0)) = true →
  (((decide (z18 = 0)) = true →
   ((z2 = true →
    (((!z8) = true →
     ((z16 = true →
      ((decide (z14 = 0)), ()) = (true, ())) ∧
     (z16 = false →
     (false, ()) = (true, ())))) ∧
    ((!z8) = false →
    (false, ()) = (true, ())))) ∧
   (z2 = false →
   (false, ()) = (true, ())))) ∧
  ((decide (z18 = 0)) = false →
  (false, ()) = (true, ())))) ∧
 ((decide (z10 = 0)) = false →
 (false, ()) = (true, ())))) ∧
((decide (z4 = 0)) = false →
(false, ()) = (true, ())))))))))))))))))))
theorem r_awake14 (x : HL C_awake14.args) : runs (env0 [(22, C_screw14.hid), (11, C_aIs.hid), (15, C_aCentric.hid)] [] []) 400 10 C_awake14 x = T_awake14  := by kernel_rfl
theorem p_awake14   : T_awake14  := by
  unfold T_awake14
  repeat' (first
    | exact trivial
    | rfl
    | (refine And.intro ?_ ?_)
    | (intro z; intro hz; subst hz)
    | (intro h; first | exact absurd h (by decide +kernel) | skip)
    | (unfold leP; decide +kernel)
    | (unfold lfit; decide +kernel)
    | decide +kernel)
theorem s_awake14 : Sound Try.prog 10 C_awake14 :=
  sound_of_eq (env0_ok (.cons s_screw14.hid (.cons s_aIs.hid (.cons s_aCentric.hid (.nil))))) (fun x => T_awake14 ) r_awake14 fun x ok hp => p_awake14  
noncomputable def C_AbsentIs : Contract := { args := [.list .op, .agg .vec], res := [.bool], pre := fun _ => True, F := fun x => ((true : Bool), ()) }
def T_AbsentIs (g : List Op3) (h : V3) : Prop :=
  (True ∧
∀ z2 : Bool,
(z2 = true →
(((!z2) = true →
 (false, ()) = (true, ())) ∧
((!z2) = false →
(True ∧
∀ z5 : Bool,
(z5 = isB g h →
∀ z7 : Int,
(z7 = isE g h →
(True ∧
∀ z9 : Bool,
(z9 = isB g h →
∀ z11 : Int,
(z11 = isE g h →
(((!(z5 == z9)) = true →
 (false, ()) = (true, ())) ∧
((!(z5 == z9)) = false →
(((!(decide (z7 = z11))) = true →
 (false, ()) = (true, ())) ∧
((!(decide (z7 = z11))) = false →
(True ∧
∀ z15 : Op3,
(z15 = wyO g h →
∀ z17 : Int,
(z17 = wyE g h →
(True ∧
∀ z19 : Op3,
(z19 = wyO g h →
∀ z21 : Int,
(z21 = wyE g h →
(((!((decide (z15.R.xx = z19.R.xx)) && ((decide (z15.R.xy = z19.R.xy)) && ((decide (z15.R.xz = z19.R.xz)) && ((decide (z15.R.yx = z19.R.yx)) && ((decide (z15.R.yy = z19.R.yy)) && ((decide (z15.R.yz = z19.R.yz)) && ((decide (z15.R.zx = z19.R.zx)) && ((decide (z15.R.zy = z19.R.zy)) && ((decide (z15.R.zz = z19.R.zz)) && ((decide (z15.T.x = z19.T.x)) && ((decide (z15.T.y = z19.T.y)) && ((decide (z15.T.z = z19.T.z)) && true))))))))))))) = true →
 (false, ()) = (true, ())) ∧
((!((decide (z15.R.xx = z19.R.xx)) && ((decide (z15.R.xy = z19.R.xy)) && ((decide (z15.R.xz = z19.R.xz)) && ((decide (z15.R.yx = z19.R.yx)) && ((decide (z15.R.yy = z19.R.yy)) && ((decide (z15.R.yz = z19.R.yz)) && ((decide (z15.R.zx = z19.R.zx)) && ((decide (z15.R.zy = z19.R.zy)) && ((decide (z15.R.zz = z19.R.zz)) && ((decide (z15.T.x = z19.T.x)) && ((decide (z15.T.y = z19.T.y)) && ((decide (z15.T.z = z19.T.z)) && true))))))))))))) = false →
(((!(decide (z17 = z21))) = true →
 (false, ()) = (true, ())) ∧
((!(decide (z17 = z21))) = false →
(True ∧
∀ z25 : Int,
(z25 = ceI g h →
∀ z27 : Bool,
(z27 = ceB g h →
∀ z29 : Int,
(z29 = isE g h →
(True ∧
∀ z31 : Int,
(z31 = ceI g h →
∀ z33 : Bool,
(z33 = ceB g h →
∀ z35 : Int,
(z35 = isE g h →
(((decide (z25 = z31)) = true →
 (((z27 == z33) = true →
  ((decide (z29 = z35)), ()) = (true, ())) ∧
 ((z27 == z33) = false →
 (false, ()) = (true, ())))) ∧
((decide (z25 = z31)) = false →
(false, ()) = (true, ())))))))))))))))))))))))))))))))))))
theorem r_AbsentIs (x : HL C_AbsentIs.args) : runs (env0 [(10, C_awake14.hid), (11, C_aIs.hid), (12, C_r14DocIs.hid), (13, C_aWhy.hid), (14, C_r14DocWhy.hid), (15, C_aCentric.hid), (16, C_r14DocCentric.hid)] [] []) 400 3 C_AbsentIs x = T_AbsentIs x.1 x.2.1 := by kernel_rfl
theorem p_AbsentIs (g : List Op3) (h : V3) (h0 : (Sh.list .op).okA g) (h1 : (Sh.agg .vec).okA h) : T_AbsentIs g h := by
  simp [T_AbsentIs]
theorem s_AbsentIs : Sound Try.prog 3 C_AbsentIs :=
  sound_of_eq (env0_ok (.cons s_awake14.hid (.cons s_aIs.hid (.cons s_r14DocIs.hid (.cons s_aWhy.hid (.cons s_r14DocWhy.hid (.cons s_aCentric.hid (.cons s_r14DocCentric.hid (.nil))))))))) (fun x => T_AbsentIs x.1 x.2.1) r_AbsentIs fun x ok hp => p_AbsentIs x.1 x.2.1 ok.1 ok.2.1
noncomputable def C_AbsentSorts : Contract := { args := [.list .op, .list .vec], res := [.bool], pre := fun _ => True, F := fun x => ((true : Bool), ()) }
def T_AbsentSorts (g : List Op3) (l : List V3) : Prop :=
  (True ∧
∀ z2 : Bool,
(z2 = true →
(((!z2) = true →
 (false, ()) = (true, ())) ∧
((!z2) = false →
(True ∧
∀ z5 : List V3,
(z5 = srP g l →
∀ z7 : List V3,
(z7 = srA g l →
∀ z9 : Int,
(z9 = abE g l →
(True ∧
∀ z11 : List V3,
(z11 = srP g l →
∀ z13 : List V3,
(z13 = srA g l →
∀ z15 : Int,
(z15 = abE g l →
(True ∧
∀ z17 : Bool,
(z17 = smV z5 z11 →
(((!z17) = true →
 (false, ()) = (true, ())) ∧
((!z17) = false →
(True ∧
∀ z20 : Bool,
(z20 = smV z7 z13 →
(((!z20) = true →
 (false, ()) = (true, ())) ∧
((!z20) = false →
(((!(decide (z9 = z15))) = true →
 (false, ()) = (true, ())) ∧
((!(decide (z9 = z15))) = false →
(((!(decide (z9 = 0))) = true →
 (true, ()) = (true, ())) ∧
((!(decide (z9 = 0))) = false →
(((!(decide (((z5.length : Int) + (z7.length : Int)) = (l.length : Int)))) = true →
 (false, ()) = (true, ())) ∧
((!(decide (((z5.length : Int) + (z7.length : Int)) = (l.length : Int)))) = false →
(asInv g l 0 0 0 ∧
∀ z26 : Int,
((decide ((-9223372036854775808) ≤ z26)) = true →
((decide (z26 ≤ 9223372036854775807)) = true →
∀ z29 : Int,
((decide ((-9223372036854775808) ≤ z29)) = true →
((decide (z29 ≤ 9223372036854775807)) = true →
∀ z32 : Int,
((decide ((-9223372036854775808) ≤ z32)) = true →
((decide (z32 ≤ 9223372036854775807)) = true →
(asInv g l z26 z29 z32 →
(((decide (z26 < (l.length : Int))) = true →
 (inB l z26 ∧
 (True ∧
 ∀ z37 : Bool,
 (z37 = isB g ((l.getD (z26).toNat (V3.mk 0 0 0))) →
 ∀ z39 : Int,
 (z39 = isE g ((l.getD (z26).toNat (V3.mk 0 0 0))) →
 (((!(decide (z39 = 0))) = true →
  (false, ()) = (true, ())) ∧
 ((!(decide (z39 = 0))) = false →
 ((z37 = true →
  (((decide (z32 < (z7.length : Int))) = true →
   (inB z7 z32 ∧
   ((((decide (((z7.getD (z32).toNat (V3.mk 0 0 0))).x = ((l.getD (z26).toNat (V3.mk 0 0 0))).x)) && ((decide (((z7.getD (z32).toNat (V3.mk 0 0 0))).y = ((l.getD (z26).toNat (V3.mk 0 0 0))).y)) && ((decide (((z7.getD (z32).toNat (V3.mk 0 0 0))).z = ((l.getD (z26).toNat (V3.mk 0 0 0))).z)) && true))) = true →
    (asInv g l ((w64 (z26 + 1))) z29 ((w64 (z32 + 1))) ∧
    ((decide (0 ≤ lnV l ((w64 (z26 + 1))))) = true ∧
    (decide (lnV l ((w64 (z26 + 1))) < lnV l z26)) = true))) ∧
   (((decide (((z7.getD (z32).toNat (V3.mk 0 0 0))).x = ((l.getD (z26).toNat (V3.mk 0 0 0))).x)) && ((decide (((z7.getD (z32).toNat (V3.mk 0 0 0))).y = ((l.getD (z26).toNat (V3.mk 0 0 0))).y)) && ((decide (((z7.getD (z32).toNat (V3.mk 0 0 0))).z = ((l.getD (z26).toNat (V3.mk 0 0 0))).z)) && true))) = false →
   (((!z37) = true →
    (((decide (z29 < (z5.length : Int))) = true →
     (inB z5 z29 ∧
     ((((decide (((z5.getD (z29).toNat (V3.mk 0 0 0))).x = ((l.getD (z26).toNat (V3.mk 0 0 0))).x)) && ((decide (((z5.getD (z29).toNat (V3.mk 0 0 0))).y = ((l.getD (z26).toNat (V3.mk 0 0 0))).y)) && ((decide (((z5.getD (z29).toNat (V3.mk 0 0 0))).z = ((l.getD (z26).toNat (V3.mk 0 0 0))).z)) && true))) = true →
      (asInv g l ((w64 (z26 + 1))) ((w64 (z29 + 1))) z32 ∧
      ((decide (0 ≤ lnV l ((w64 (z26 + 1))))) = true ∧
      (decide (lnV l ((w64 (z26 + 1))) < lnV l z26)) = true))) ∧
     (((decide (((z5.getD (z29).toNat (V3.mk 0 0 0))).x = ((l.getD (z26).toNat (V3.mk 0 0 0))).x)) && ((decide (((z5.getD (z29).toNat (V3.mk 0 0 0))).y = ((l.getD (z26).toNat (V3.mk 0 0 0))).y)) && ((decide (((z5.getD (z29).toNat (V3.mk 0 0 0))).z = ((l.getD (z26).toNat (V3.mk 0 0 0))).z)) && true))) = false →
     (false, ()) = (true, ()))))) ∧
    ((decide (z29 < (z5.length : Int))) = false →
    (false, ()) = (true, ())))) ∧
   ((!z37) = false →
   (false, ()) = (true, ()))))))) ∧
  ((decide (z32 < (z7.length : Int))) = false →
  (((!z37) = true →
   (((decide (z29 < (z5.length : Int))) = true →
    (inB z5 z29 ∧
    ((((decide (((z5.getD (z29).toNat (V3.mk 0 0 0))).x = ((l.getD (z26).toNat (V3.mk 0 0 0))).x)) && ((decide (((z5.getD (z29).toNat (V3.mk 0 0 0))).y = ((l.getD (z26).toNat (V3.mk 0 0 0))).y)) && ((decide (((z5.getD (z29).toNat (V3.mk 0 0 0))).z = ((l.getD (z26).toNat (V3.mk 0 0 0))).z)) && true))) = true →
     (asInv g l ((w64 (z26 + 1))) ((w64 (z29 + 1))) z32 ∧
     ((decide (0 ≤ lnV l ((w64 (z26 + 1))))) = true ∧
     (decide (lnV l ((w64 (z26 + 1))) < lnV l z26)) = true))) ∧
    (((decide (((z5.getD (z29).toNat (V3.mk 0 0 0))).x = ((l.getD (z26).toNat (V3.mk 0 0 0))).x)) && ((decide (((z5.getD (z29).toNat (V3.mk 0 0 0))).y = ((l.getD (z26).toNat (V3.mk 0 0 0))).y)) && ((decide (((z5.getD (z29).toNat (V3.mk 0 0 0))).z = ((l.getD (z26).toNat (V3.mk 0 0 0))).z)) && true))) = false →
    (false, ()) = (true, ()))))) ∧
   ((decide (z29 < (z5.length : Int))) = false →
   (false, ()) = (true, ())))) ∧
  ((!z37) = false →
  (false, ()) = (true, ())))))) ∧
 (z37 = false →
 (((!z37) = true →
  (((decide (z29 < (z5.length : Int))) = true →
   (inB z5 z29 ∧
   ((((decide (((z5.getD (z29).toNat (V3.mk 0 0 0))).x = ((l.getD (z26).toNat (V3.mk 0 0 0))).x)) && ((decide (((z5.getD (z29).toNat (V3.mk 0 0 0))).y = ((l.getD (z26).toNat (V3.mk 0 0 0))).y)) && ((decide (((z5.getD (z29).toNat (V3.mk 0 0 0))).z = ((l.getD (z26).toNat (V3.mk 0 0 0))).z)) && true))) = true →
    (asInv g l ((w64 (z26 + 1))) ((w64 (z29 + 1))) z32 ∧
    ((decide (0 ≤ lnV l ((w64 (z26 + 1))))) = true ∧
    (decide (lnV l ((w64 (z26 + 1))) < lnV l z26)) = true))) ∧
   (((decide (((z5.getD (z29).toNat (V3.mk 0 0 0))).x = ((l.getD (z26).toNat (V3.mk 0 0 0))).x)) && ((decide (((z5.getD (z29).toNat (V3.mk 0 0 0))).y = ((l.getD (z26).toNat (V3.mk 0 0 0))).y)) && ((decide (((z5.getD (z29).toNat (V3.mk 0 0 0))).z = ((l.getD (z26).toNat (V3.mk 0 0 0))).z)) && true))) = false →
   (false, ()) = (true, ()))))) ∧
  ((decide (z29 < (z5.length : Int))) = false →
  (false, ()) = (true, ())))) ∧
 ((!z37) = false →
 (false, ()) = (true, ())))))))))))) ∧
((decide (z26 < (l.length : Int))) = false →
(true, ()) = (true, ())))))))))))))))))))))))))))))))))))))
theorem r_AbsentSorts (x : HL C_AbsentSorts.args) : runs (env0 [(10, C_awake14.hid), (11, C_aIs.hid), (17, C_aSort.hid), (18, C_r14DocSort.hid), (19, C_r14Same.hid)] [(4, 13, { fix := [(.tmp 0, .list .op), (.tmp 58, .list .vec), (.tmp 5, .list .vec), (.tmp 6, .list .vec)], vars := [(.tmp 60, .int .i64), (.tmp 11, .int .i64), (.tmp 12, .int .i64)], inv := fun y v => asInv y.1 y.2.1 v.1 v.2.1 v.2.2.1, mu := fun y v => lnV y.2.1 v.1 })] []) 400 4 C_AbsentSorts x = T_AbsentSorts x.1 x.2.1 := by kernel_rfl
theorem p_AbsentSorts (g : List Op3) (l : List V3) (h0 : (Sh.list .op).okA g) (h1 : (Sh.list .vec).okA l) : T_AbsentSorts g l := by
  have hb : l.length * 24 ≤ 140737488355328 := h1.2
  unfold T_AbsentSorts
  refine ⟨trivial, fun z hz => ⟨fun h => absurd (hz ▸ h) (by decide), fun _ => ⟨trivial, fun p hp a ha e he => ⟨trivial, fun p' hp' a' ha' e' he' => ⟨trivial, fun b1 hb1 => ⟨fun h => absurd h (by rw [hb1, hp, hp']; simp [smV]), fun _ => ⟨trivial, fun b2 hb2 => ⟨fun h => absurd h (by rw [hb2, ha, ha']; simp [smV]), fun _ => ⟨fun h => absurd h (by rw [he, he']; simp), fun _ => ⟨fun _ => rfl, fun hze => ?_⟩⟩⟩⟩⟩⟩⟩⟩⟩⟩
  have hz0 : abE g l = 0 := by rw [← he]; simpa using hze
  obtain ⟨o1, o2, o3⟩ := ab_zero hz0
  have hp : p = l.filter (fun h => !whyB g h) := by rw [hp]; unfold srP; rw [if_pos hz0]
  have ha : a = l.filter (fun h => whyB g h) := by rw [ha]; unfold srA; rw [if_pos hz0]
  have hsum := filter_sum (fun h => whyB g h) l
  rw [← hp, ← ha] at hsum
  refine ⟨fun h => absurd h (by simp; omega), fun _ => ⟨as_init g l, fun k _ _ i _ _ j _ _ hI => ⟨fun hk => ?_, fun _ => rfl⟩⟩⟩
  have hk := of_decide_eq_true hk
  have k0 := hI.1
  have ho := o1 _ (getD_mem k0 hk (V3.mk 0 0 0))
  have hkz : hkE g (l.getD k.toNat (V3.mk 0 0 0)) = 0 := by unfold hkE; rw [if_pos ho]; exact o3
  have e1 : w64 (k + 1) = k + 1 := w64_id (by omega) (by omega)
  obtain ⟨n1, n2⟩ := as_next hI hk
  have m1 : decide (0 ≤ lnV l (w64 (k + 1))) = true := decide_eq_true (by unfold lnV; omega)
  have m2 : decide (lnV l (w64 (k + 1)) < lnV l k) = true := decide_eq_true (by unfold lnV; omega)
  have hij := as_len hI
  rw [eqVc, eqVc, e1, w64_id (x := i + 1) (by omega) (by omega), w64_id (x := j + 1) (by omega) (by omega)]
  rw [e1] at m1 m2
  refine ⟨⟨k0, hk⟩, trivial, fun b hb' e2 he2 => ⟨fun h => absurd h (by rw [he2]; show ¬ (!decide (hkE g _ = 0)) = true; rw [hkz]; decide), fun _ => ?_⟩⟩
  have hb' : b = whyB g (l.getD k.toNat (V3.mk 0 0 0)) := by rw [hb']; unfold isB; rw [if_pos hkz]
  rw [hp, ha]
  cases hw : whyB g (l.getD k.toNat (V3.mk 0 0 0)) with
  | true =>
    obtain ⟨q1, q2, q3⟩ := n2 hw
    rw [hb', hw]
    exact ⟨fun _ => ⟨fun _ => ⟨q1, fun _ => ⟨q3, m1, m2⟩, fun h => absurd q2 (of_decide_eq_false h)⟩, fun h => absurd q1.2 (of_decide_eq_false h)⟩, fun h => (by cases h)⟩
  | false =>
    obtain ⟨q1, q2, q3⟩ := n1 hw
    rw [hb', hw]
    exact ⟨fun h => (by cases h), fun _ => ⟨fun _ => ⟨fun _ => ⟨q1, fun _ => ⟨q3, m1, m2⟩, fun h => absurd q2 (of_decide_eq_false h)⟩, fun h => absurd q1.2 (of_decide_eq_false h)⟩, fun h => (by cases h)⟩⟩
theorem s_AbsentSorts : Sound Try.prog 4 C_AbsentSorts :=
  sound_of_eq (env0_ok (.cons s_awake14.hid (.cons s_aIs.hid (.cons s_aSort.hid (.cons s_r14DocSort.hid (.cons s_r14Same.hid (.nil))))))) (fun x => T_AbsentSorts x.1 x.2.1) r_AbsentSorts fun x ok hp => p_AbsentSorts x.1 x.2.1 ok.1 ok.2.1
noncomputable def C_AbsentParts : Contract := { args := [.list .op, .list .op, .agg .vec], res := [.bool], pre := fun _ => True, F := fun x => ((true : Bool), ()) }
def T_AbsentParts (g : List Op3) (l : List Op3) (h : V3) : Prop :=
  (True ∧
∀ z3 : Bool,
(z3 = true →
(((!z3) = true →
 (false, ()) = (true, ())) ∧
((!z3) = false →
(True ∧
∀ z6 : Bool,
(z6 = isB g h →
∀ z8 : Int,
(z8 = isE g h →
(True ∧
∀ z10 : List V3,
(z10 = cenL g →
∀ z12 : Int,
(z12 = chkE g →
(((!(decide (z8 = 0))) = true →
 ((!z6), ()) = (true, ())) ∧
((!(decide (z8 = 0))) = false →
(((!(decide (z12 = 0))) = true →
 ((!z6), ()) = (true, ())) ∧
((!(decide (z12 = 0))) = false →
(rgP (z10.length : Int) 0 ∧
∀ z16 : Int,
((decide ((-9223372036854775808) ≤ z16)) = true →
((decide (z16 ≤ 9223372036854775807)) = true →
(rgP (z10.length : Int) z16 →
(((decide (z16 < (z10.length : Int))) = true →
 (inB z10 z16 ∧
 (inM 24 ∧
 (((!(decide (emo ((w64 (((w64 (((w64 ((h.x * ((z10.getD (z16).toNat (V3.mk 0 0 0))).x))) + (w64 ((h.y * ((z10.getD (z16).toNat (V3.mk 0 0 0))).y)))))) + (w64 ((h.z * ((z10.getD (z16).toNat (V3.mk 0 0 0))).z))))))) 24 = 0))) = true →
  (((!z6) = true →
   (false, ()) = (true, ())) ∧
  ((!z6) = false →
  (rgP (z10.length : Int) ((w64 (z16 + 1))) ∧
  ((decide (0 ≤ rgMu (z10.length : Int) ((w64 (z16 + 1))))) = true ∧
  (decide (rgMu (z10.length : Int) ((w64 (z16 + 1))) < rgMu (z10.length : Int) z16)) = true))))) ∧
 ((!(decide (emo ((w64 (((w64 (((w64 ((h.x * ((z10.getD (z16).toNat (V3.mk 0 0 0))).x))) + (w64 ((h.y * ((z10.getD (z16).toNat (V3.mk 0 0 0))).y)))))) + (w64 ((h.z * ((z10.getD (z16).toNat (V3.mk 0 0 0))).z))))))) 24 = 0))) = false →
 (rgP (z10.length : Int) ((w64 (z16 + 1))) ∧
 ((decide (0 ≤ rgMu (z10.length : Int) ((w64 (z16 + 1))))) = true ∧
 (decide (rgMu (z10.length : Int) ((w64 (z16 + 1))) < rgMu (z10.length : Int) z16)) = true))))))) ∧
((decide (z16 < (z10.length : Int))) = false →
(soP g [] 0 (l.length : Int) ∧
∀ z21 : List Op3,
∀ z22 : Int,
((decide ((-9223372036854775808) ≤ z22)) = true →
((decide (z22 ≤ 9223372036854775807)) = true →
(soP g z21 z22 (l.length : Int) →
(lfit 96 z21 →
(((decide (z22 < (l.length : Int))) = true →
 (inB l z22 ∧
 (True ∧
 ∀ z28 : Int,
 (z28 = fndI g (((l.getD (z22).toNat zerO))) →
 ∀ z30 : Int,
 (z30 = fndE g (((l.getD (z22).toNat zerO))) →
 (((decide (z30 = 0)) = true →
  (((decide ((z21.length : Int) < 4)) = true →
   (lfit 96 (lapp z21 ([((l.getD (z22).toNat zerO))])) ∧
   (soP g (lapp z21 ([((l.getD (z22).toNat zerO))])) ((w64 (z22 + 1))) (l.length : Int) ∧
   ((decide (0 ≤ rgMu (l.length : Int) ((w64 (z22 + 1))))) = true ∧
   (decide (rgMu (l.length : Int) ((w64 (z22 + 1))) < rgMu (l.length : Int) z22)) = true)))) ∧
  ((decide ((z21.length : Int) < 4)) = false →
  (soP g z21 ((w64 (z22 + 1))) (l.length : Int) ∧
  ((decide (0 ≤ rgMu (l.length : Int) ((w64 (z22 + 1))))) = true ∧
  (decide (rgMu (l.length : Int) ((w64 (z22 + 1))) < rgMu (l.length : Int) z22)) = true))))) ∧
 ((decide (z30 = 0)) = false →
 (soP g z21 ((w64 (z22 + 1))) (l.length : Int) ∧
 ((decide (0 ≤ rgMu (l.length : Int) ((w64 (z22 + 1))))) = true ∧
 (decide (rgMu (l.length : Int) ((w64 (z22 + 1))) < rgMu (l.length : Int) z22)) = true))))))))) ∧
((decide (z22 < (l.length : Int))) = false →
(True ∧
∀ z28 : List Op3,
(z28 = cloL z21 →
∀ z30 : Int,
(z30 = cloE z21 →
(((!(decide (z30 = 0))) = true →
 (false, ()) = (true, ())) ∧
((!(decide (z30 = 0))) = false →
(True ∧
∀ z33 : Bool,
(z33 = isB z28 h →
∀ z35 : Int,
(z35 = isE z28 h →
(((decide (z35 = 0)) = true →
 (((!z33) = true →
  (true, ()) = (true, ())) ∧
 ((!z33) = false →
 (z6, ()) = (true, ())))) ∧
((decide (z35 = 0)) = false →
(false, ()) = (true, ()))))))))))))))))))))))))))))))))))))))
theorem r_AbsentParts (x : HL C_AbsentParts.args) : runs (env0 [(10, C_awake14.hid), (11, C_aIs.hid), (23, C_gCentring.hid), (24, C_r3Mod), (25, C_gFind.hid), (20, C_gClose.hid)] [(7, 8, { fix := [(.tmp 41, .list .vec)], vars := [(.tmp 43, .int .i64)], inv := fun y v => rgP (lenI y.1) v.1, mu := fun y v => rgMu (lenI y.1) v.1 }), (7, 15, { fix := [(.tmp 0, .list .op), (.tmp 71, .list .op)], vars := [(.tmp 13, .list .op), (.tmp 73, .int .i64)], inv := fun y v => soP y.1 v.1 v.2.1 (lenI y.2.1), mu := fun y v => rgMu (lenI y.2.1) v.2.1 })] []) 400 7 C_AbsentParts x = T_AbsentParts x.1 x.2.1 x.2.2.1 := by kernel_rfl
theorem p_AbsentParts (g : List Op3) (l : List Op3) (h : V3) (h0 : (Sh.list .op).okA g) (h1 : (Sh.list .op).okA l) (h2 : (Sh.agg .vec).okA h) : T_AbsentParts g l h := by
  have hb : l.length * 96 ≤ 140737488355328 := h1.2
  have hgb : g.length * 96 ≤ 140737488355328 := h0.2
  have hcl := cenL_len g
  unfold T_AbsentParts
  refine ⟨trivial, fun z hz => ⟨fun q => absurd (hz ▸ q) (by decide), fun _ => ⟨trivial, fun b hb' e he => ⟨trivial, fun t ht f hf => ⟨fun q => ?_, fun q => ⟨fun q2 => ?_, fun q2 => ⟨rg_init t, fun i _ _ hI => ⟨fun hi => ?_, fun _ => ⟨⟨Int.le_refl _, by show (0 : Int) ≤ _; omega, (fun o ho => by cases ho), by decide⟩, fun s i _ _ hS hfit => ⟨fun hi => ?_, fun _ => ⟨trivial, fun c hc e3 he3 => ?_⟩⟩⟩⟩⟩⟩⟩⟩⟩⟩⟩
  · have hne : hkE g h ≠ 0 := by rw [show hkE g h = e from he.symm]; simpa using q
    rw [hb', show isB g h = false by unfold isB; rw [if_neg hne]]; rfl
  · have hne : hkE g h ≠ 0 := fun c => by rw [hf, (hk_zero c).2] at q2; cases q2
    rw [hb', show isB g h = false by unfold isB; rw [if_neg hne]]; rfl
  · have hz0 : hkE g h = 0 := by rw [show hkE g h = e from he.symm]; simpa using q
    have hi := of_decide_eq_true hi
    have htl : t.length ≤ g.length := by rw [ht]; exact hcl
    have nx := rg_next (by omega) hI hi
    refine ⟨⟨hI.1, hi⟩, ⟨by decide, by decide⟩, fun c => ⟨fun d => absurd d ?_, fun _ => nx⟩, fun _ => nx⟩
    have hm := getD_mem hI.1 hi (V3.mk 0 0 0)
    rw [hb', cen_is hz0 (by rw [← ht]; exact hm) (by simpa [phN, emo] using c)]; decide
  · have hz0 : hkE g h = 0 := by rw [show hkE g h = e from he.symm]; simpa using q
    have hi := of_decide_eq_true hi
    obtain ⟨s1, s2, s3, s4⟩ := hS
    have e1 : w64 (i + 1) = i + 1 := w64_id (by omega) (by omega)
    have m1 : decide (0 ≤ rgMu (l.length : Int) (w64 (i + 1))) = true := decide_eq_true (by unfold rgMu; omega)
    have m2 : decide (rgMu (l.length : Int) (w64 (i + 1)) < rgMu (l.length : Int) i) = true := decide_eq_true (by unfold rgMu; omega)
    rw [e1] at m1 m2 ⊢
    refine ⟨⟨s1, hi⟩, trivial, fun k _ e2 he2 => ⟨fun c => ⟨fun d => ⟨?_, ⟨by omega, by omega, fun o ho => ?_, ?_⟩, m1, m2⟩, fun d => ⟨⟨by omega, by omega, s3, s4⟩, m1, m2⟩⟩, fun c => ⟨⟨by omega, by omega, s3, s4⟩, m1, m2⟩⟩⟩
    · show (s ++ [_]).length * 96 ≤ 140737488355328
      have := of_decide_eq_true d
      rw [List.length_append]; simp only [List.length_singleton]; omega
    · rcases List.mem_append.1 ho with ho | ho
      · exact s3 o ho
      · rw [List.mem_singleton.1 ho]
        exact fnd_mem (hk_zero hz0).2 (by rw [← he2]; exact of_decide_eq_true c)
    · show (s ++ [_]).length ≤ 4
      have := of_decide_eq_true d
      rw [List.length_append]; simp only [List.length_singleton]; omega
  · have hz0 : hkE g h = 0 := by rw [show hkE g h = e from he.symm]; simpa using q
    obtain ⟨s1, s2, s3, s4⟩ := hS
    obtain ⟨p1, p2⟩ := part_clo (hk_zero hz0).2 s3 (by omega)
    have p3 : hkE (cloL s) h = 0 := by unfold hkE; rw [if_pos (hk_zero hz0).1]; exact clo_chk p1
    refine ⟨fun d => absurd d (by rw [he3, p1]; decide), fun _ => ⟨trivial, fun b2 hb2 e4 he4 => ⟨fun _ => ⟨fun _ => rfl, fun d => ?_⟩, fun d => absurd (show e4 = 0 by rw [he4, hc]; exact p3) (of_decide_eq_false d)⟩⟩⟩
    have d : b2 = true := by simpa using d
    rw [hb2, hc] at d
    have d : whyB (cloL s) h = true := by unfold isB at d; rwa [if_pos p3] at d
    obtain ⟨o, ho, ha⟩ := why_iff.1 d
    rw [hb', show isB g h = whyB g h by unfold isB; rw [if_pos hz0], why_iff.2 ⟨o, p2 o ho, ha⟩]
theorem s_AbsentParts : Sound Try.prog 7 C_AbsentParts :=
  sound_of_eq (env0_ok (.cons s_awake14.hid (.cons s_aIs.hid (.cons s_gCentring.hid (.cons s_r3Mod (.cons s_gFind.hid (.cons s_gClose.hid (.nil)))))))) (fun x => T_AbsentParts x.1 x.2.1 x.2.2.1) r_AbsentParts fun x ok hp => p_AbsentParts x.1 x.2.1 x.2.2.1 ok.1 ok.2.1 ok.2.2.1
end Go.Fx
