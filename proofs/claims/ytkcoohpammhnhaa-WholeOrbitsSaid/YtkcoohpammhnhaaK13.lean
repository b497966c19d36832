/-
  Contracts: ints9, at9, pair9, awake9.
-/
import Derived.Test.YtkcoohpammhnhaaK12
namespace Go.Fx
open Go Go.Proofs
set_option maxRecDepth 100000
set_option linter.unusedVariables false
set_option linter.unusedSimpArgs false
set_option linter.unusedSectionVars false
noncomputable def C_ints9 : Contract := { args := [.list .int, .list .int], res := [.bool], pre := fun _ => True, F := fun x => ((smI x.1 x.2.1 : Bool), ()) }
def T_ints9 (a : List Int) (b : List Int) : Prop :=
  (((!(decide ((a.length : Int) = (b.length : Int)))) = true →
 (false, ()) = (smI a b, ())) ∧
((!(decide ((a.length : Int) = (b.length : Int)))) = false →
(smIn a b 0 ∧
∀ z3 : Int,
((decide ((-9223372036854775808) ≤ z3)) = true →
((decide (z3 ≤ 9223372036854775807)) = true →
(smIn a b z3 →
(((decide (z3 < (a.length : Int))) = true →
 (inB a z3 ∧
 (inB b z3 ∧
 (((!(decide ((a.getD (z3).toNat 0) = (b.getD (z3).toNat 0)))) = true →
  (false, ()) = (smI a b, ())) ∧
 ((!(decide ((a.getD (z3).toNat 0) = (b.getD (z3).toNat 0)))) = false →
 (smIn a b ((w64 (z3 + 1))) ∧
 ((decide (0 ≤ inMu a ((w64 (z3 + 1))))) = true ∧
 (decide (inMu a ((w64 (z3 + 1))) < inMu a z3)) = true))))))) ∧
((decide (z3 < (a.length : Int))) = false →
(true, ()) = (smI a b, ())))))))))
theorem r_ints9 (x : HL C_ints9.args) : runs (env0 [] [(17, 4, { fix := [(.tmp 0, .list .int), (.tmp 1, .list .int)], vars := [(.tmp 13, .int .i64)], inv := fun y v => smIn y.1 y.2.1 v.1, mu := fun y v => inMu y.1 v.1 })] []) 400 17 C_ints9 x = T_ints9 x.1 x.2.1 := by kernel_rfl
theorem p_ints9 (a : List Int) (b : List Int) (h0 : (Sh.list .int).okA a) (h1 : (Sh.list .int).okA b) : T_ints9 a b := by
  have hb : a.length * 8 ≤ room := h0.2
  unfold T_ints9 smI
  refine ⟨fun h => ?_, fun h => ?_⟩
  · have : a ≠ b := fun e => by rw [e] at h; simp at h
    rw [decide_eq_false this]
  have hl : a.length = b.length := by have : (a.length : Int) = b.length := by simpa using h
                                      omega
  refine ⟨⟨hl, by omega, by omega, fun k hk => by simp at hk⟩, fun i _ _ hI => ⟨fun hi => ?_, fun hi => ?_⟩⟩
  · have hi := of_decide_eq_true hi
    have i0 := hI.2.1
    have e1 : w64 (i + 1) = i + 1 := w64_id (by omega) (by unfold room at hb; omega)
    refine ⟨⟨i0, hi⟩, ⟨i0, by omega⟩, fun h1 => ?_, fun h1 => ⟨?_, ?_, ?_⟩⟩
    · rw [decide_eq_false (sm_ne (by simpa using h1))]
    · rw [e1]; exact sm_next hI hi (by simpa using h1)
    · rw [e1]; exact decide_eq_true (by unfold inMu; omega)
    · rw [e1]; exact decide_eq_true (by unfold inMu; omega)
  · rw [decide_eq_true (sm_end hI (of_decide_eq_false hi))]
theorem s_ints9 : Sound Try.prog 17 C_ints9 :=
  sound_of_eq (env0_ok (.nil)) (fun x => T_ints9 x.1 x.2.1) r_ints9 fun x ok hp => p_ints9 x.1 x.2.1 ok.1 ok.2.1
noncomputable def C_at9 : Contract := { args := [.int .i64, .int .i64, .int .i64], res := [.agg .pt], pre := fun _ => True, F := fun x => ((Pt.mk 24 (V3.mk x.1 x.2.1 x.2.2.1) : Pt), ()) }
def T_at9 (x : Int) (y : Int) (z : Int) : Prop :=
  ((Pt.mk 24 (V3.mk x y z)), ()) = ((Pt.mk 24 (V3.mk x y z)), ())
theorem r_at9 (x : HL C_at9.args) : runs (env0 [] [] []) 400 23 C_at9 x = T_at9 x.1 x.2.1 x.2.2.1 := by kernel_rfl
theorem p_at9 (x : Int) (y : Int) (z : Int) (h0 : (Sh.int .i64).okA x) (h1 : (Sh.int .i64).okA y) (h2 : (Sh.int .i64).okA z) : T_at9 x y z := by
  rfl
theorem s_at9 : Sound Try.prog 23 C_at9 :=
  sound_of_eq (env0_ok (.nil)) (fun x => T_at9 x.1 x.2.1 x.2.2.1) r_at9 fun x ok hp => p_at9 x.1 x.2.1 x.2.2.1 ok.1 ok.2.1 ok.2.2.1
noncomputable def C_pair9 : Contract := { args := [], res := [.list .op], pre := fun _ => True, F := fun x => ((pair9L : List Op3), ()) }
def T_pair9  : Prop :=
  (True ∧
([(Op3.mk ((M3.mk (-1) 0 0 0 (-1) 0 0 0 (-1))) (V3.mk 0 0 0)), oneO], ()) = (pair9L, ()))
theorem r_pair9 (x : HL C_pair9.args) : runs (env0 [(59, C_r5One)] [] []) 400 32 C_pair9 x = T_pair9  := by kernel_rfl
theorem p_pair9   : T_pair9  := by
  exact ⟨trivial, rfl⟩
theorem s_pair9 : Sound Try.prog 32 C_pair9 :=
  sound_of_eq (env0_ok (.cons s_r5One (.nil))) (fun x => T_pair9 ) r_pair9 fun x ok hp => p_pair9  
noncomputable def C_awake9 : Contract := { args := [], res := [.bool], pre := fun _ => True, F := fun x => ((true : Bool), ()) }
def T_awake9  : Prop :=
  (True ∧
∀ z0 : List Op3,
(z0 = pair9L →
(True ∧
(True ∧
∀ z2 : List Pt,
(z2 = ofL z0 ((Pt.mk 24 (V3.mk 23 22 21))) →
∀ z4 : Int,
(z4 = ocE z0 ([(Pt.mk 24 (V3.mk 23 22 21))]) →
(True ∧
∀ z6 : List Op3,
(z6 = pair9L →
(True ∧
(True ∧
∀ z8 : Pt,
(z8 = lsP z6 ((Pt.mk 24 (V3.mk 23 22 21))) →
∀ z10 : Int,
(z10 = lsI z6 ((Pt.mk 24 (V3.mk 23 22 21))) →
∀ z12 : Int,
(z12 = ocE z6 ([(Pt.mk 24 (V3.mk 23 22 21))]) →
(True ∧
∀ z14 : List Op3,
(z14 = pair9L →
(True ∧
(True ∧
∀ z16 : List Int,
(z16 = siL z14 ((Pt.mk 24 (V3.mk 12 0 0))) →
∀ z18 : Int,
(z18 = ocE z14 ([(Pt.mk 24 (V3.mk 12 0 0))]) →
(True ∧
∀ z20 : List Op3,
(z20 = pair9L →
(True ∧
(True ∧
(True ∧
∀ z22 : Bool,
(z22 = saB z20 ((Pt.mk 24 (V3.mk 1 2 3))) ((Pt.mk 24 (V3.mk 23 22 21))) →
∀ z24 : Int,
(z24 = saE z20 ((Pt.mk 24 (V3.mk 1 2 3))) ((Pt.mk 24 (V3.mk 23 22 21))) →
(((decide (z4 = 0)) = true →
 (((decide (z12 = 0)) = true →
  (((decide (z18 = 0)) = true →
   (((decide (z24 = 0)) = true →
    (True ∧
    (True ∧
    (True ∧
    ((smX z2 ([(Pt.mk 24 (V3.mk 1 2 3)), (Pt.mk 24 (V3.mk 23 22 21))]) = true →
     (True ∧
     ((((decide (z8.M = 24)) && ((decide (z8.X.x = 1)) && ((decide (z8.X.y = 2)) && ((decide (z8.X.z = 3)) && true)))) = true →
      (((decide (z10 = 0)) = true →
       (True ∧
       ((smI z16 ([0, 1]) = true →
        (z22, ()) = (true, ())) ∧
       (smI z16 ([0, 1]) = false →
       (false, ()) = (true, ()))))) ∧
      ((decide (z10 = 0)) = false →
      (false, ()) = (true, ())))) ∧
     (((decide (z8.M = 24)) && ((decide (z8.X.x = 1)) && ((decide (z8.X.y = 2)) && ((decide (z8.X.z = 3)) && true)))) = false →
     (false, ()) = (true, ()))))) ∧
    (smX z2 ([(Pt.mk 24 (V3.mk 1 2 3)), (Pt.mk 24 (V3.mk 23 22 21))]) = false →
    (false, ()) = (true, ()))))))) ∧
   ((decide (z24 = 0)) = false →
   (false, ()) = (true, ())))) ∧
  ((decide (z18 = 0)) = false →
  (false, ()) = (true, ())))) ∧
 ((decide (z12 = 0)) = false →
 (false, ()) = (true, ())))) ∧
((decide (z4 = 0)) = false →
(false, ()) = (true, ())))))))))))))))))))))))))))))
theorem r_awake9 (x : HL C_awake9.args) : runs (env0 [(23, C_at9), (32, C_pair9.hid), (11, C_oOf.hid), (18, C_oLeast.hid), (15, C_oSite.hid), (20, C_oSame.hid), (14, C_r9SamePoints.hid), (17, C_ints9.hid)] [] []) 400 10 C_awake9 x = T_awake9  := by kernel_rfl
theorem p_awake9   : T_awake9  := by
  unfold T_awake9
  repeat' (first
    | exact trivial
    | rfl
    | (refine And.intro ?_ ?_)
    | (intro z; intro hz; subst hz)
    | (intro h; first | exact absurd h (by decide +kernel) | skip)
    | decide +kernel)
theorem s_awake9 : Sound Try.prog 10 C_awake9 :=
  sound_of_eq (env0_ok (.cons s_at9 (.cons s_pair9.hid (.cons s_oOf.hid (.cons s_oLeast.hid (.cons s_oSite.hid (.cons s_oSame.hid (.cons s_r9SamePoints.hid (.cons s_ints9.hid (.nil)))))))))) (fun x => T_awake9 ) r_awake9 fun x ok hp => p_awake9  
end Go.Fx
