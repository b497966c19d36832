/-
  Contracts: r5Maps.
-/
import Derived.Test.YtlhkgleaeoaokaaK12
namespace Go.Fx
open Go Go.Proofs
set_option maxRecDepth 100000
set_option linter.unusedVariables false
set_option linter.unusedSimpArgs false
set_option linter.unusedSectionVars false
noncomputable def C_r5Maps : Contract := { args := [.list .op], res := [.int .i64], pre := fun _ => True, F := fun x => ((errL x.1 : Int), ()) }
def T_r5Maps (l : List Op3) : Prop :=
  (chInv l 0 0 ∧
∀ z1 : Int,
((decide ((-9223372036854775808) ≤ z1)) = true →
((decide (z1 ≤ 9223372036854775807)) = true →
∀ z4 : Int,
((decide ((-9223372036854775808) ≤ z4)) = true →
((decide (z4 ≤ 9223372036854775807)) = true →
(chInv l z1 z4 →
(((decide (z1 < (l.length : Int))) = true →
 (inB l z1 ∧
 (True ∧
 ∀ z9 : Bool,
 (z9 = okM (((l.getD (z1).toNat zerO)).R) →
 ((z9 = true →
  (True ∧
  ∀ z12 : Int,
  (z12 = w64 (detZ (((l.getD (z1).toNat zerO)).R)) →
  (inM 24 ∧
  (((!((decide ((((l.getD (z1).toNat zerO)).T).x = (modV 24 (((l.getD (z1).toNat zerO)).T)).x)) && ((decide ((((l.getD (z1).toNat zerO)).T).y = (modV 24 (((l.getD (z1).toNat zerO)).T)).y)) && ((decide ((((l.getD (z1).toNat zerO)).T).z = (modV 24 (((l.getD (z1).toNat zerO)).T)).z)) && true)))) = true →
   (3, ()) = (errL l, ())) ∧
  ((!((decide ((((l.getD (z1).toNat zerO)).T).x = (modV 24 (((l.getD (z1).toNat zerO)).T)).x)) && ((decide ((((l.getD (z1).toNat zerO)).T).y = (modV 24 (((l.getD (z1).toNat zerO)).T)).y)) && ((decide ((((l.getD (z1).toNat zerO)).T).z = (modV 24 (((l.getD (z1).toNat zerO)).T)).z)) && true)))) = false →
  (True ∧
  ((okM (((l.getD (z1).toNat zerO)).R) = true →
   (((!(decide (z12 = 1))) = true →
    (((!(decide (z12 = (-1)))) = true →
     (3, ()) = (errL l, ())) ∧
    ((!(decide (z12 = (-1)))) = false →
    (True ∧
    ∀ z18 : Bool,
    (z18 = okM (((l.getD (z1).toNat zerO)).R) →
    (((!z18) = true →
     (chInv l ((w64 (z1 + 1))) 4 ∧
     ((decide (0 ≤ opMu l ((w64 (z1 + 1))))) = true ∧
     (decide (opMu l ((w64 (z1 + 1))) < opMu l z1)) = true))) ∧
    ((!z18) = false →
    (chInv l ((w64 (z1 + 1))) z4 ∧
    ((decide (0 ≤ opMu l ((w64 (z1 + 1))))) = true ∧
    (decide (opMu l ((w64 (z1 + 1))) < opMu l z1)) = true))))))))) ∧
   ((!(decide (z12 = 1))) = false →
   (True ∧
   ∀ z17 : Bool,
   (z17 = okM (((l.getD (z1).toNat zerO)).R) →
   (((!z17) = true →
    (chInv l ((w64 (z1 + 1))) 4 ∧
    ((decide (0 ≤ opMu l ((w64 (z1 + 1))))) = true ∧
    (decide (opMu l ((w64 (z1 + 1))) < opMu l z1)) = true))) ∧
   ((!z17) = false →
   (chInv l ((w64 (z1 + 1))) z4 ∧
   ((decide (0 ≤ opMu l ((w64 (z1 + 1))))) = true ∧
   (decide (opMu l ((w64 (z1 + 1))) < opMu l z1)) = true))))))))) ∧
  (okM (((l.getD (z1).toNat zerO)).R) = false →
  (True ∧
  ∀ z16 : Bool,
  (z16 = okM (((l.getD (z1).toNat zerO)).R) →
  (((!z16) = true →
   (chInv l ((w64 (z1 + 1))) 4 ∧
   ((decide (0 ≤ opMu l ((w64 (z1 + 1))))) = true ∧
   (decide (opMu l ((w64 (z1 + 1))) < opMu l z1)) = true))) ∧
  ((!z16) = false →
  (chInv l ((w64 (z1 + 1))) z4 ∧
  ((decide (0 ≤ opMu l ((w64 (z1 + 1))))) = true ∧
  (decide (opMu l ((w64 (z1 + 1))) < opMu l z1)) = true))))))))))))))) ∧
 (z9 = false →
 (inM 24 ∧
 (((!((decide ((((l.getD (z1).toNat zerO)).T).x = (modV 24 (((l.getD (z1).toNat zerO)).T)).x)) && ((decide ((((l.getD (z1).toNat zerO)).T).y = (modV 24 (((l.getD (z1).toNat zerO)).T)).y)) && ((decide ((((l.getD (z1).toNat zerO)).T).z = (modV 24 (((l.getD (z1).toNat zerO)).T)).z)) && true)))) = true →
  (3, ()) = (errL l, ())) ∧
 ((!((decide ((((l.getD (z1).toNat zerO)).T).x = (modV 24 (((l.getD (z1).toNat zerO)).T)).x)) && ((decide ((((l.getD (z1).toNat zerO)).T).y = (modV 24 (((l.getD (z1).toNat zerO)).T)).y)) && ((decide ((((l.getD (z1).toNat zerO)).T).z = (modV 24 (((l.getD (z1).toNat zerO)).T)).z)) && true)))) = false →
 (True ∧
 ((okM (((l.getD (z1).toNat zerO)).R) = true →
  (3, ()) = (errL l, ())) ∧
 (okM (((l.getD (z1).toNat zerO)).R) = false →
 (True ∧
 ∀ z14 : Bool,
 (z14 = okM (((l.getD (z1).toNat zerO)).R) →
 (((!z14) = true →
  (chInv l ((w64 (z1 + 1))) 4 ∧
  ((decide (0 ≤ opMu l ((w64 (z1 + 1))))) = true ∧
  (decide (opMu l ((w64 (z1 + 1))) < opMu l z1)) = true))) ∧
 ((!z14) = false →
 (chInv l ((w64 (z1 + 1))) z4 ∧
 ((decide (0 ≤ opMu l ((w64 (z1 + 1))))) = true ∧
 (decide (opMu l ((w64 (z1 + 1))) < opMu l z1)) = true)))))))))))))))))) ∧
((decide (z1 < (l.length : Int))) = false →
(z4, ()) = (errL l, ())))))))))
theorem r_r5Maps (x : HL C_r5Maps.args) : runs (env0 [(43, C_r5Within.hid), (44, C_r5Det.hid), (45, C_f2Bring.hid)] [(30, 3, { fix := [(.tmp 7, .list .op)], vars := [(.tmp 9, .int .i64), (.tmp 3, .int .i64)], inv := fun y v => chInv y.1 v.1 v.2.1, mu := fun y v => opMu y.1 v.1 })] []) 400 30 C_r5Maps x = T_r5Maps x.1 := by kernel_rfl
theorem p_r5Maps (l : List Op3) (h0 : (Sh.list .op).okA l) : T_r5Maps l := by
  have hb : l.length * 96 ≤ 140737488355328 := Nat.le_trans h0.2 (by decide)
  refine ⟨⟨by omega, by omega, by simp, rfl⟩, fun i _ _ w _ _ hI => ⟨fun hi => ?_, fun hi => ch_end hI (of_decide_eq_false hi)⟩⟩
  have hi := of_decide_eq_true hi
  have i0 := hI.1
  have bad := ch_bad i0 hi (d := zerO)
  have next := fun h3 w' hw => ch_next hb hI hi (d := zerO) h3 (w' := w') hw
  have cls := maps_o (l.getD i.toNat zerO)
  have hT := modT (l.getD i.toNat zerO).T
  generalize l.getD i.toNat zerO = o at bad next cls hT
  rw [hT]
  refine ⟨⟨i0, hi⟩, trivial, fun z hz => ⟨fun hk => ⟨trivial, fun d hd => ⟨k24, fun h1 => ?_, fun h1 => ⟨trivial, fun h2 => ⟨fun h3 => ⟨fun h4 => ?_, fun h4 => ⟨trivial, fun y hy => ⟨fun h5 => ?_, fun h5 => ?_⟩⟩⟩, fun h3 => ⟨trivial, fun y hy => ⟨fun h5 => ?_, fun h5 => ?_⟩⟩⟩, fun h2 => ⟨trivial, fun y hy => ⟨fun h5 => ?_, fun h5 => ?_⟩⟩⟩⟩⟩, fun hk => ⟨k24, fun h1 => ?_, fun h1 => ⟨trivial, fun h2 => ?_, fun h2 => ⟨trivial, fun y hy => ⟨fun h5 => ?_, fun h5 => ?_⟩⟩⟩⟩⟩⟩
  all_goals (try subst hd) <;> (try subst hy) <;> (try subst hz)
  all_goals simp only [Bool.not_eq_true', Bool.not_eq_false', decide_eq_false_iff_not, decide_eq_true_eq] at *
  all_goals (first | (exact bad (by simp_all)) | (exact next (by simp_all) _ (by simp_all)) | (simp_all; done))
theorem s_r5Maps : Sound Try.prog 30 C_r5Maps :=
  sound_of_eq (env0_ok (.cons s_r5Within.hid (.cons s_r5Det.hid (.cons s_f2Bring.hid (.nil))))) (fun x => T_r5Maps x.1) r_r5Maps fun x ok hp => p_r5Maps x.1 ok.1
end Go.Fx
