/-
  Contracts: r5Maps, r5put.
-/
import Derived.Test.YtkchandelfmoaaaGreatK9
namespace Go.Fx
open Go Go.Proofs
set_option maxRecDepth 100000
set_option linter.unusedVariables false
set_option linter.unusedSimpArgs false
set_option linter.unusedSectionVars false
noncomputable def C_r5Maps : Contract := { args := [.list .op], res := [.int .i64], pre := fun _ => True, F := fun x => ((errL x.1 : Int), ()) }
def T_r5Maps (l : List Op3) : Prop :=
  (chInv l 0 0 ∧
∀ z1 : Int,
((decide ((-9223372036854775808) ≤ z1)) = true →
((decide (z1 ≤ 9223372036854775807)) = true →
∀ z4 : Int,
((decide ((-9223372036854775808) ≤ z4)) = true →
((decide (z4 ≤ 9223372036854775807)) = true →
(chInv l z1 z4 →
(((decide (z1 < (l.length : Int))) = true →
 (inB l z1 ∧
 (True ∧
 ∀ z9 : Bool,
 (z9 = okM (((l.getD (z1).toNat zerO)).R) →
 ((z9 = true →
  (True ∧
  ∀ z12 : Int,
  (z12 = w64 (detZ (((l.getD (z1).toNat zerO)).R)) →
  (inM 24 ∧
  (((!((decide ((((l.getD (z1).toNat zerO)).T).x = (modV 24 (((l.getD (z1).toNat zerO)).T)).x)) && ((decide ((((l.getD (z1).toNat zerO)).T).y = (modV 24 (((l.getD (z1).toNat zerO)).T)).y)) && ((decide ((((l.getD (z1).toNat zerO)).T).z = (modV 24 (((l.getD (z1).toNat zerO)).T)).z)) && true)))) = true →
   (3, ()) = (errL l, ())) ∧
  ((!((decide ((((l.getD (z1).toNat zerO)).T).x = (modV 24 (((l.getD (z1).toNat zerO)).T)).x)) && ((decide ((((l.getD (z1).toNat zerO)).T).y = (modV 24 (((l.getD (z1).toNat zerO)).T)).y)) && ((decide ((((l.getD (z1).toNat zerO)).T).z = (modV 24 (((l.getD (z1).toNat zerO)).T)).z)) && true)))) = false →
  (True ∧
  ((okM (((l.getD (z1).toNat zerO)).R) = true →
   (((!(decide (z12 = 1))) = true →
    (((!(decide (z12 = (-1)))) = true →
     (3, ()) = (errL l, ())) ∧
    ((!(decide (z12 = (-1)))) = false →
    (True ∧
    ∀ z18 : Bool,
    (z18 = okM (((l.getD (z1).toNat zerO)).R) →
    (((!z18) = true →
     (chInv l ((w64 (z1 + 1))) 4 ∧
     ((decide (0 ≤ opMu l ((w64 (z1 + 1))))) = true ∧
     (decide (opMu l ((w64 (z1 + 1))) < opMu l z1)) = true))) ∧
    ((!z18) = false →
    (chInv l ((w64 (z1 + 1))) z4 ∧
    ((decide (0 ≤ opMu l ((w64 (z1 + 1))))) = true ∧
    (decide (opMu l ((w64 (z1 + 1))) < opMu l z1)) = true))))))))) ∧
   ((!(decide (z12 = 1))) = false →
   (True ∧
   ∀ z17 : Bool,
   (z17 = okM (((l.getD (z1).toNat zerO)).R) →
   (((!z17) = true →
    (chInv l ((w64 (z1 + 1))) 4 ∧
    ((decide (0 ≤ opMu l ((w64 (z1 + 1))))) = true ∧
    (decide (opMu l ((w64 (z1 + 1))) < opMu l z1)) = true))) ∧
   ((!z17) = false →
   (chInv l ((w64 (z1 + 1))) z4 ∧
   ((decide (0 ≤ opMu l ((w64 (z1 + 1))))) = true ∧
   (decide (opMu l ((w64 (z1 + 1))) < opMu l z1)) = true))))))))) ∧
  (okM (((l.getD (z1).toNat zerO)).R) = false →
  (True ∧
  ∀ z16 : Bool,
  (z16 = okM (((l.getD (z1).toNat zerO)).R) →
  (((!z16) = true →
   (chInv l ((w64 (z1 + 1))) 4 ∧
   ((decide (0 ≤ opMu l ((w64 (z1 + 1))))) = true ∧
   (decide (opMu l ((w64 (z1 + 1))) < opMu l z1)) = true))) ∧
  ((!z16) = false →
  (chInv l ((w64 (z1 + 1))) z4 ∧
  ((decide (0 ≤ opMu l ((w64 (z1 + 1))))) = true ∧
  (decide (opMu l ((w64 (z1 + 1))) < opMu l z1)) = true))))))))))))))) ∧
 (z9 = false →
 (inM 24 ∧
 (((!((decide ((((l.getD (z1).toNat zerO)).T).x = (modV 24 (((l.getD (z1).toNat zerO)).T)).x)) && ((decide ((((l.getD (z1).toNat zerO)).T).y = (modV 24 (((l.getD (z1).toNat zerO)).T)).y)) && ((decide ((((l.getD (z1).toNat zerO)).T).z = (modV 24 (((l.getD (z1).toNat zerO)).T)).z)) && true)))) = true →
  (3, ()) = (errL l, ())) ∧
 ((!((decide ((((l.getD (z1).toNat zerO)).T).x = (modV 24 (((l.getD (z1).toNat zerO)).T)).x)) && ((decide ((((l.getD (z1).toNat zerO)).T).y = (modV 24 (((l.getD (z1).toNat zerO)).T)).y)) && ((decide ((((l.getD (z1).toNat zerO)).T).z = (modV 24 (((l.getD (z1).toNat zerO)).T)).z)) && true)))) = false →
 (True ∧
 ((okM (((l.getD (z1).toNat zerO)).R) = true →
  (3, ()) = (errL l, ())) ∧
 (okM (((l.getD (z1).toNat zerO)).R) = false →
 (True ∧
 ∀ z14 : Bool,
 (z14 = okM (((l.getD (z1).toNat zerO)).R) →
 (((!z14) = true →
  (chInv l ((w64 (z1 + 1))) 4 ∧
  ((decide (0 ≤ opMu l ((w64 (z1 + 1))))) = true ∧
  (decide (opMu l ((w64 (z1 + 1))) < opMu l z1)) = true))) ∧
 ((!z14) = false →
 (chInv l ((w64 (z1 + 1))) z4 ∧
 ((decide (0 ≤ opMu l ((w64 (z1 + 1))))) = true ∧
 (decide (opMu l ((w64 (z1 + 1))) < opMu l z1)) = true)))))))))))))))))) ∧
((decide (z1 < (l.length : Int))) = false →
(z4, ()) = (errL l, ())))))))))
theorem r_r5Maps (x : HL C_r5Maps.args) : runs (env0 [(70, C_r5Within.hid), (71, C_r5Det.hid), (72, C_f2Bring.hid)] [(38, 3, { fix := [(.tmp 7, .list .op)], vars := [(.tmp 9, .int .i64), (.tmp 3, .int .i64)], inv := fun y v => chInv y.1 v.1 v.2.1, mu := fun y v => opMu y.1 v.1 })] []) 400 38 C_r5Maps x = T_r5Maps x.1 := by kernel_rfl
theorem p_r5Maps (l : List Op3) (h0 : (Sh.list .op).okA l) : T_r5Maps l := by
  have hb : l.length * 96 ≤ 140737488355328 := Nat.le_trans h0.2 (by decide)
  refine ⟨⟨by omega, by omega, by simp, rfl⟩, fun i _ _ w _ _ hI => ⟨fun hi => ?_, fun hi => ch_end hI (of_decide_eq_false hi)⟩⟩
  have hi := of_decide_eq_true hi
  have i0 := hI.1
  have bad := ch_bad i0 hi (d := zerO)
  have next := fun h3 w' hw => ch_next hb hI hi (d := zerO) h3 (w' := w') hw
  have cls := maps_o (l.getD i.toNat zerO)
  have hT := modT (l.getD i.toNat zerO).T
  generalize l.getD i.toNat zerO = o at bad next cls hT
  rw [hT]
  refine ⟨⟨i0, hi⟩, trivial, fun z hz => ⟨fun hk => ⟨trivial, fun d hd => ⟨k24, fun h1 => ?_, fun h1 => ⟨trivial, fun h2 => ⟨fun h3 => ⟨fun h4 => ?_, fun h4 => ⟨trivial, fun y hy => ⟨fun h5 => ?_, fun h5 => ?_⟩⟩⟩, fun h3 => ⟨trivial, fun y hy => ⟨fun h5 => ?_, fun h5 => ?_⟩⟩⟩, fun h2 => ⟨trivial, fun y hy => ⟨fun h5 => ?_, fun h5 => ?_⟩⟩⟩⟩⟩, fun hk => ⟨k24, fun h1 => ?_, fun h1 => ⟨trivial, fun h2 => ?_, fun h2 => ⟨trivial, fun y hy => ⟨fun h5 => ?_, fun h5 => ?_⟩⟩⟩⟩⟩⟩
  all_goals (try subst hd) <;> (try subst hy) <;> (try subst hz)
  all_goals simp only [Bool.not_eq_true', Bool.not_eq_false', decide_eq_false_iff_not, decide_eq_true_eq] at *
  all_goals (first | (exact bad (by simp_all)) | (exact next (by simp_all) _ (by simp_all)) | (simp_all; done))
theorem s_r5Maps : Sound Tryz.prog 38 C_r5Maps :=
  sound_of_eq (env0_ok (.cons s_r5Within.hid (.cons s_r5Det.hid (.cons s_f2Bring.hid (.nil))))) (fun x => T_r5Maps x.1) r_r5Maps fun x ok hp => p_r5Maps x.1 ok.1
noncomputable def C_r5put : Contract := { args := [.list .op, .agg .op], res := [.list .op], pre := fun x => lfit 96 (lapp x.1 [x.2.1]), F := fun x => ((putO x.1 x.2.1 : List Op3), ()) }
def T_r5put (l : List Op3) (o : Op3) : Prop :=
  (puInv l o 0 ∧
∀ z2 : Int,
((decide ((-9223372036854775808) ≤ z2)) = true →
((decide (z2 ≤ 9223372036854775807)) = true →
(puInv l o z2 →
(((decide (z2 < (l.length : Int))) = true →
 (inB l z2 ∧
 (True ∧
 (((decide (cmpO (((l.getD (z2).toNat zerO))) o < 0)) = true →
  (puInv l o ((w64 (z2 + 1))) ∧
  ((decide (0 ≤ opMu l ((w64 (z2 + 1))))) = true ∧
  (decide (opMu l ((w64 (z2 + 1))) < opMu l z2)) = true))) ∧
 ((decide (cmpO (((l.getD (z2).toNat zerO))) o < 0)) = false →
 ((leP 0 0 ∧
  (leP 0 z2 ∧
  leP z2 (l.length : Int))) ∧
 (lfit 96 (lapp [] (lsub l 0 z2)) ∧
 (lfit 96 (lapp (lapp [] (lsub l 0 z2)) [o]) ∧
 ((leP 0 z2 ∧
  (leP z2 (l.length : Int) ∧
  leP (l.length : Int) (l.length : Int))) ∧
 (lfit 96 (lapp (lapp (lapp [] (lsub l 0 z2)) [o]) (lsub l z2 (((l.length : Int) - z2)))) ∧
 (lapp (lapp (lapp [] (lsub l 0 z2)) [o]) (lsub l z2 (((l.length : Int) - z2))), ()) = (putO l o, ()))))))))))) ∧
((decide (z2 < (l.length : Int))) = false →
((leP 0 0 ∧
 (leP 0 z2 ∧
 leP z2 (l.length : Int))) ∧
(lfit 96 (lapp [] (lsub l 0 z2)) ∧
(lfit 96 (lapp (lapp [] (lsub l 0 z2)) [o]) ∧
((leP 0 z2 ∧
 (leP z2 (l.length : Int) ∧
 leP (l.length : Int) (l.length : Int))) ∧
(lfit 96 (lapp (lapp (lapp [] (lsub l 0 z2)) [o]) (lsub l z2 (((l.length : Int) - z2)))) ∧
(lapp (lapp (lapp [] (lsub l 0 z2)) [o]) (lsub l z2 (((l.length : Int) - z2))), ()) = (putO l o, ()))))))))))))
theorem r_r5put (x : HL C_r5put.args) : runs (env0 [(29, C_r5Compare.hid)] [(73, 2, { fix := [(.tmp 0, .list .op), (.cell 3, .agg .op)], vars := [(.tmp 5, .int .i64)], inv := fun y v => puInv y.1 y.2.1 v.1, mu := fun y v => opMu y.1 v.1 })] []) 400 73 C_r5put x = T_r5put x.1 x.2.1 := by kernel_rfl
theorem p_r5put (l : List Op3) (o : Op3) (h0 : (Sh.list .op).okA l) (h1 : (Sh.agg .op).okA o) (hp : lfit 96 (lapp l [o])) : T_r5put l o := by
  have hb : l.length * 96 ≤ room := h0.2
  have hl : (l ++ [o]).length * 96 ≤ 140737488355328 := hp
  refine ⟨⟨by omega, by omega, fun k hk => by simp at hk⟩, fun i _ _ hI => ⟨fun hi => ?_, fun hi => ?_⟩⟩
  · have hi := of_decide_eq_true hi
    obtain ⟨e1, e2, e3⟩ := opMu_next hb hI.1 hi
    obtain ⟨f1, f2, f3⟩ := pu_fit hl hI
    have i0 := hI.1
    refine ⟨⟨i0, hi⟩, trivial, fun hc => ⟨?_, e2, e3⟩, fun hc => ⟨⟨Int.le_refl _, i0, Int.le_of_lt hi⟩, f1, f2, ⟨i0, Int.le_of_lt hi, Int.le_refl _⟩, f3, ?_⟩⟩
    · rw [e1]
      refine ⟨by omega, by omega, fun k hk => ?_⟩
      rcases Nat.lt_or_ge k i.toNat with h1 | h1
      · exact hI.2.2 k h1
      · have : k = i.toNat := by omega
        subst this
        exact of_decide_eq_true hc
    · rw [pu_end hI fun _ => of_decide_eq_false hc]
  · have hi := of_decide_eq_false hi
    obtain ⟨f1, f2, f3⟩ := pu_fit hl hI
    have i0 := hI.1
    have i1 := hI.2.1
    exact ⟨⟨Int.le_refl _, i0, i1⟩, f1, f2, ⟨i0, i1, Int.le_refl _⟩, f3, by rw [pu_end hI fun h => absurd h hi]⟩
theorem s_r5put : Sound Tryz.prog 73 C_r5put :=
  sound_of_eq (env0_ok (.cons s_r5Compare.hid (.nil))) (fun x => T_r5put x.1 x.2.1) r_r5put fun x ok hp => p_r5put x.1 x.2.1 ok.1 ok.2.1 hp
end Go.Fx
