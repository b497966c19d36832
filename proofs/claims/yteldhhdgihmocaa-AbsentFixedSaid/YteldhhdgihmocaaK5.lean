/-
  Contracts: gFind, gCentring.
-/
import Derived.Test.YteldhhdgihmocaaK4
namespace Go.Fx
open Go Go.Proofs
set_option maxRecDepth 100000
set_option linter.unusedVariables false
set_option linter.unusedSimpArgs false
set_option linter.unusedSectionVars false
noncomputable def C_gFind : Contract := { args := [.list .op, .agg .op], res := [.int .i64, .int .i64], pre := fun _ => True, F := fun x => ((fndI x.1 x.2.1 : Int), (fndE x.1 x.2.1 : Int), ()) }
def T_gFind (g : List Op3) (o : Op3) : Prop :=
  (True ∧
(True ∧
(((decide (chkE g = 0)) = true →
 (((!(decide (gE [o] = 0))) = true →
  (0, (gE [o], ())) = (fndI g o, (fndE g o, ()))) ∧
 ((!(decide (gE [o] = 0))) = false →
 (True ∧
 ∀ z4 : Int,
 (z4 = idxO g o →
 (((decide (z4 < 0)) = true →
  (0, (9, ())) = (fndI g o, (fndE g o, ()))) ∧
 ((decide (z4 < 0)) = false →
 (z4, (0, ())) = (fndI g o, (fndE g o, ()))))))))) ∧
((decide (chkE g = 0)) = false →
(((!(decide (gE [o] = 0))) = true →
 (((decide (gE [o] < chkE g)) = true →
  (((!(decide (gE [o] = 0))) = true →
   (0, (gE [o], ())) = (fndI g o, (fndE g o, ()))) ∧
  ((!(decide (gE [o] = 0))) = false →
  (True ∧
  ∀ z6 : Int,
  (z6 = idxO g o →
  (((decide (z6 < 0)) = true →
   (0, (9, ())) = (fndI g o, (fndE g o, ()))) ∧
  ((decide (z6 < 0)) = false →
  (z6, (0, ())) = (fndI g o, (fndE g o, ()))))))))) ∧
 ((decide (gE [o] < chkE g)) = false →
 (((!(decide (chkE g = 0))) = true →
  (0, (chkE g, ())) = (fndI g o, (fndE g o, ()))) ∧
 ((!(decide (chkE g = 0))) = false →
 (True ∧
 ∀ z6 : Int,
 (z6 = idxO g o →
 (((decide (z6 < 0)) = true →
  (0, (9, ())) = (fndI g o, (fndE g o, ()))) ∧
 ((decide (z6 < 0)) = false →
 (z6, (0, ())) = (fndI g o, (fndE g o, ()))))))))))) ∧
((!(decide (gE [o] = 0))) = false →
(((!(decide (chkE g = 0))) = true →
 (0, (chkE g, ())) = (fndI g o, (fndE g o, ()))) ∧
((!(decide (chkE g = 0))) = false →
(True ∧
∀ z5 : Int,
(z5 = idxO g o →
(((decide (z5 < 0)) = true →
 (0, (9, ())) = (fndI g o, (fndE g o, ()))) ∧
((decide (z5 < 0)) = false →
(z5, (0, ())) = (fndI g o, (fndE g o, ()))))))))))))))
theorem r_gFind (x : HL C_gFind.args) : runs (env0 [(46, C_gCheck.hid), (41, C_gmaps.hid), (47, C_gIndexO.hid)] [] []) 400 25 C_gFind x = T_gFind x.1 x.2.1 := by kernel_rfl
theorem p_gFind (g : List Op3) (o : Op3) (h0 : (Sh.list .op).okA g) (h1 : (Sh.agg .op).okA o) : T_gFind g o := by
  unfold T_gFind fndI fndE fndF
  simp only [Bool.not_eq_true', Bool.not_eq_false', decide_eq_true_eq, decide_eq_false_iff_not]
  generalize chkE g = e
  generalize gE [o] = f
  generalize idxO g o = k
  refine ⟨trivial, trivial, fun h1 => ⟨fun h2 => ?_, fun h2 => ⟨trivial, fun z hz => ⟨fun h3 => ?_, fun h3 => ?_⟩⟩⟩, fun h1 => ⟨fun h2 => ⟨fun h3 => ⟨fun h4 => ?_, fun h4 => ⟨trivial, fun z hz => ⟨fun h5 => ?_, fun h5 => ?_⟩⟩⟩, fun h3 => ⟨fun h4 => ?_, fun h4 => ⟨trivial, fun z hz => ⟨fun h5 => ?_, fun h5 => ?_⟩⟩⟩⟩, fun h2 => ⟨fun h4 => ?_, fun h4 => ⟨trivial, fun z hz => ⟨fun h5 => ?_, fun h5 => ?_⟩⟩⟩⟩⟩ <;> (try subst hz) <;> simp_all <;> grind
theorem s_gFind : Sound Try.prog 25 C_gFind :=
  sound_of_eq (env0_ok (.cons s_gCheck.hid (.cons s_gmaps.hid (.cons s_gIndexO.hid (.nil))))) (fun x => T_gFind x.1 x.2.1) r_gFind fun x ok hp => p_gFind x.1 x.2.1 ok.1 ok.2.1
noncomputable def C_gCentring : Contract := { args := [.list .op], res := [.list .vec, .int .i64], pre := fun _ => True, F := fun x => ((cenL x.1 : List V3), (chkE x.1 : Int), ()) }
def T_gCentring (g : List Op3) : Prop :=
  (True ∧
∀ z1 : Int,
(z1 = chkE g →
(((!(decide (z1 = 0))) = true →
 ([], (z1, ())) = (cenL g, (chkE g, ()))) ∧
((!(decide (z1 = 0))) = false →
(ceInv g [] 0 ∧
∀ z4 : List V3,
∀ z5 : Int,
((decide ((-9223372036854775808) ≤ z5)) = true →
((decide (z5 ≤ 9223372036854775807)) = true →
(ceInv g z4 z5 →
(lfit 24 z4 →
(((decide (z5 < (g.length : Int))) = true →
 (inB g z5 ∧
 (True ∧
 ((((decide ((((g.getD (z5).toNat zerO)).R).xx = (oneZ 1).xx)) && ((decide ((((g.getD (z5).toNat zerO)).R).xy = (oneZ 1).xy)) && ((decide ((((g.getD (z5).toNat zerO)).R).xz = (oneZ 1).xz)) && ((decide ((((g.getD (z5).toNat zerO)).R).yx = (oneZ 1).yx)) && ((decide ((((g.getD (z5).toNat zerO)).R).yy = (oneZ 1).yy)) && ((decide ((((g.getD (z5).toNat zerO)).R).yz = (oneZ 1).yz)) && ((decide ((((g.getD (z5).toNat zerO)).R).zx = (oneZ 1).zx)) && ((decide ((((g.getD (z5).toNat zerO)).R).zy = (oneZ 1).zy)) && ((decide ((((g.getD (z5).toNat zerO)).R).zz = (oneZ 1).zz)) && true))))))))) = true →
  (lfit 24 (lapp z4 ([((g.getD (z5).toNat zerO)).T])) ∧
  (ceInv g (lapp z4 ([((g.getD (z5).toNat zerO)).T])) ((w64 (z5 + 1))) ∧
  ((decide (0 ≤ opMu g ((w64 (z5 + 1))))) = true ∧
  (decide (opMu g ((w64 (z5 + 1))) < opMu g z5)) = true)))) ∧
 (((decide ((((g.getD (z5).toNat zerO)).R).xx = (oneZ 1).xx)) && ((decide ((((g.getD (z5).toNat zerO)).R).xy = (oneZ 1).xy)) && ((decide ((((g.getD (z5).toNat zerO)).R).xz = (oneZ 1).xz)) && ((decide ((((g.getD (z5).toNat zerO)).R).yx = (oneZ 1).yx)) && ((decide ((((g.getD (z5).toNat zerO)).R).yy = (oneZ 1).yy)) && ((decide ((((g.getD (z5).toNat zerO)).R).yz = (oneZ 1).yz)) && ((decide ((((g.getD (z5).toNat zerO)).R).zx = (oneZ 1).zx)) && ((decide ((((g.getD (z5).toNat zerO)).R).zy = (oneZ 1).zy)) && ((decide ((((g.getD (z5).toNat zerO)).R).zz = (oneZ 1).zz)) && true))))))))) = false →
 (ceInv g z4 ((w64 (z5 + 1))) ∧
 ((decide (0 ≤ opMu g ((w64 (z5 + 1))))) = true ∧
 (decide (opMu g ((w64 (z5 + 1))) < opMu g z5)) = true))))))) ∧
((decide (z5 < (g.length : Int))) = false →
(z4, (0, ())) = (cenL g, (chkE g, ())))))))))))))
theorem r_gCentring (x : HL C_gCentring.args) : runs (env0 [(46, C_gCheck.hid), (45, C_Identity)] [(23, 6, { fix := [(.tmp 13, .list .op)], vars := [(.tmp 5, .list .vec), (.tmp 15, .int .i64)], inv := fun y v => ceInv y.1 v.1 v.2.1, mu := fun y v => opMu y.1 v.2.1 })] []) 400 23 C_gCentring x = T_gCentring x.1 := by kernel_rfl
theorem p_gCentring (g : List Op3) (h0 : (Sh.list .op).okA g) : T_gCentring g := by
  have hb : g.length * 96 ≤ room := h0.2
  refine ⟨trivial, fun e he => ⟨fun h => ?_, fun h => ?_⟩⟩
  · have hne : chkE g ≠ 0 := by rw [← he]; simpa using h
    unfold cenL; rw [if_neg hne, he]
  have hz : chkE g = 0 := by rw [← he]; simpa using h
  have h192 := chk_len hz
  refine ⟨⟨by omega, by omega, rfl⟩, fun l i _ _ hI hfit => ⟨fun hi => ?_, fun hi => ?_⟩⟩
  · have hi := of_decide_eq_true hi
    have i0 := hI.1
    obtain ⟨e1, e2, e3⟩ := opMu_next hb i0 hi
    have hlen := cen_len g i
    rw [eqMc]
    refine ⟨⟨i0, hi⟩, trivial, fun h1 => ⟨?_, ?_, e2, e3⟩, fun h1 => ⟨?_, e2, e3⟩⟩
    · show (l ++ [_]).length * 24 ≤ 140737488355328
      rw [List.length_append, hI.2.2]; simp; omega
    · rw [e1]
      refine ⟨by omega, by omega, ?_⟩
      rw [take_succ i0 hi zerO, cenF_snoc, ← hI.2.2, if_pos (of_decide_eq_true h1)]; rfl
    · rw [e1]
      refine ⟨by omega, by omega, ?_⟩
      rw [take_succ i0 hi zerO, cenF_snoc, ← hI.2.2, if_neg (of_decide_eq_false h1)]
  · unfold cenL
    rw [if_pos hz, hI.2.2, take_end (of_decide_eq_false hi), hz]
theorem s_gCentring : Sound Try.prog 23 C_gCentring :=
  sound_of_eq (env0_ok (.cons s_gCheck.hid (.cons s_Identity (.nil)))) (fun x => T_gCentring x.1) r_gCentring fun x ok hp => p_gCentring x.1 ok.1
end Go.Fx
