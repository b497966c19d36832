/-
  Contracts: ints6, cuts6, r5Same, flat6, four6, pair6, awake6.
-/
import Derived.Test.YtcadkndjcneedaaGreatK10
namespace Go.Fx
open Go Go.Proofs
set_option maxRecDepth 100000
set_option linter.unusedVariables false
set_option linter.unusedSimpArgs false
set_option linter.unusedSectionVars false
noncomputable def C_ints6 : Contract := { args := [.list .int, .list .int], res := [.bool], pre := fun _ => True, F := fun x => ((smI x.1 x.2.1 : Bool), ()) }
def T_ints6 (a : List Int) (b : List Int) : Prop :=
  (((!(decide ((a.length : Int) = (b.length : Int)))) = true →
 (false, ()) = (smI a b, ())) ∧
((!(decide ((a.length : Int) = (b.length : Int)))) = false →
(smIn a b 0 ∧
∀ z3 : Int,
((decide ((-9223372036854775808) ≤ z3)) = true →
((decide (z3 ≤ 9223372036854775807)) = true →
(smIn a b z3 →
(((decide (z3 < (a.length : Int))) = true →
 (inB a z3 ∧
 (inB b z3 ∧
 (((!(decide ((a.getD (z3).toNat 0) = (b.getD (z3).toNat 0)))) = true →
  (false, ()) = (smI a b, ())) ∧
 ((!(decide ((a.getD (z3).toNat 0) = (b.getD (z3).toNat 0)))) = false →
 (smIn a b ((w64 (z3 + 1))) ∧
 ((decide (0 ≤ inMu a ((w64 (z3 + 1))))) = true ∧
 (decide (inMu a ((w64 (z3 + 1))) < inMu a z3)) = true))))))) ∧
((decide (z3 < (a.length : Int))) = false →
(true, ()) = (smI a b, ())))))))))
theorem r_ints6 (x : HL C_ints6.args) : runs (env0 [] [(44, 4, { fix := [(.tmp 0, .list .int), (.tmp 1, .list .int)], vars := [(.tmp 13, .int .i64)], inv := fun y v => smIn y.1 y.2.1 v.1, mu := fun y v => inMu y.1 v.1 })] []) 400 44 C_ints6 x = T_ints6 x.1 x.2.1 := by kernel_rfl
theorem p_ints6 (a : List Int) (b : List Int) (h0 : (Sh.list .int).okA a) (h1 : (Sh.list .int).okA b) : T_ints6 a b := by
  have hb : a.length * 8 ≤ room := h0.2
  unfold T_ints6 smI
  refine ⟨fun h => ?_, fun h => ?_⟩
  · have : a ≠ b := fun e => by rw [e] at h; simp at h
    rw [decide_eq_false this]
  have hl : a.length = b.length := by have : (a.length : Int) = b.length := by simpa using h
                                      omega
  refine ⟨⟨hl, by omega, by omega, fun k hk => by simp at hk⟩, fun i _ _ hI => ⟨fun hi => ?_, fun hi => ?_⟩⟩
  · have hi := of_decide_eq_true hi
    have i0 := hI.2.1
    have e1 : w64 (i + 1) = i + 1 := w64_id (by omega) (by unfold room at hb; omega)
    refine ⟨⟨i0, hi⟩, ⟨i0, by omega⟩, fun h1 => ?_, fun h1 => ⟨?_, ?_, ?_⟩⟩
    · rw [decide_eq_false (sm_ne (by simpa using h1))]
    · rw [e1]; exact sm_next hI hi (by simpa using h1)
    · rw [e1]; exact decide_eq_true (by unfold inMu; omega)
    · rw [e1]; exact decide_eq_true (by unfold inMu; omega)
  · rw [decide_eq_true (sm_end hI (of_decide_eq_false hi))]
theorem s_ints6 : Sound Tryz.prog 44 C_ints6 :=
  sound_of_eq (env0_ok (.nil)) (fun x => T_ints6 x.1 x.2.1) r_ints6 fun x ok hp => p_ints6 x.1 x.2.1 ok.1 ok.2.1
noncomputable def C_cuts6 : Contract := { args := [.lists .int, .lists .int], res := [.bool], pre := fun _ => True, F := fun x => ((smC x.1 x.2.1 : Bool), ()) }
def T_cuts6 (a : List (List Int)) (b : List (List Int)) : Prop :=
  (((!(decide ((a.length : Int) = (b.length : Int)))) = true →
 (false, ()) = (smC a b, ())) ∧
((!(decide ((a.length : Int) = (b.length : Int)))) = false →
(smCi a b 0 ∧
∀ z3 : Int,
((decide ((-9223372036854775808) ≤ z3)) = true →
((decide (z3 ≤ 9223372036854775807)) = true →
(smCi a b z3 →
(((decide (z3 < (a.length : Int))) = true →
 (inB a z3 ∧
 (inB b z3 ∧
 (True ∧
 (((!smI ((a.getD (z3).toNat [])) ((b.getD (z3).toNat []))) = true →
  (false, ()) = (smC a b, ())) ∧
 ((!smI ((a.getD (z3).toNat [])) ((b.getD (z3).toNat []))) = false →
 (smCi a b ((w64 (z3 + 1))) ∧
 ((decide (0 ≤ liMu a ((w64 (z3 + 1))))) = true ∧
 (decide (liMu a ((w64 (z3 + 1))) < liMu a z3)) = true)))))))) ∧
((decide (z3 < (a.length : Int))) = false →
(true, ()) = (smC a b, ())))))))))
theorem r_cuts6 (x : HL C_cuts6.args) : runs (env0 [(44, C_ints6.hid)] [(20, 4, { fix := [(.tmp 0, .lists .int), (.tmp 1, .lists .int)], vars := [(.tmp 13, .int .i64)], inv := fun y v => smCi y.1 y.2.1 v.1, mu := fun y v => liMu y.1 v.1 })] []) 400 20 C_cuts6 x = T_cuts6 x.1 x.2.1 := by kernel_rfl
theorem p_cuts6 (a : List (List Int)) (b : List (List Int)) (h0 : (Sh.lists .int).okA a) (h1 : (Sh.lists .int).okA b) : T_cuts6 a b := by
  have hb : a.length * 24 ≤ room := h0.2
  unfold T_cuts6 smC
  refine ⟨fun h => ?_, fun h => ?_⟩
  · have : a ≠ b := fun e => by rw [e] at h; simp at h
    rw [decide_eq_false this]
  have hl : a.length = b.length := by have : (a.length : Int) = b.length := by simpa using h
                                      omega
  refine ⟨smC_0 hl, fun i _ _ hI => ⟨fun hi => ?_, fun hi => ?_⟩⟩
  · have hi := of_decide_eq_true hi
    have i0 := hI.1.1
    refine ⟨⟨i0, hi⟩, ⟨i0, by omega⟩, trivial, fun h1 => ?_, fun h1 => smC_next hb hI hi (of_decide_eq_true (by simpa [smI] using h1))⟩
    have : a ≠ b := fun e => by rw [e] at h1; simp [smI] at h1
    rw [decide_eq_false this]
  · rw [decide_eq_true (smC_end hI (of_decide_eq_false hi))]
theorem s_cuts6 : Sound Tryz.prog 20 C_cuts6 :=
  sound_of_eq (env0_ok (.cons s_ints6.hid (.nil))) (fun x => T_cuts6 x.1 x.2.1) r_cuts6 fun x ok hp => p_cuts6 x.1 x.2.1 ok.1 ok.2.1
noncomputable def C_r5Same : Contract := { args := [.list .op, .list .op], res := [.bool], pre := fun _ => True, F := fun x => ((smO x.1 x.2.1 : Bool), ()) }
def T_r5Same (a : List Op3) (b : List Op3) : Prop :=
  (((!(decide ((a.length : Int) = (b.length : Int)))) = true →
 (false, ()) = (smO a b, ())) ∧
((!(decide ((a.length : Int) = (b.length : Int)))) = false →
(smInv a b 0 ∧
∀ z3 : Int,
((decide ((-9223372036854775808) ≤ z3)) = true →
((decide (z3 ≤ 9223372036854775807)) = true →
(smInv a b z3 →
(((decide (z3 < (a.length : Int))) = true →
 (inB a z3 ∧
 (inB b z3 ∧
 (((!((decide ((((a.getD (z3).toNat zerO)).R).xx = (((b.getD (z3).toNat zerO)).R).xx)) && ((decide ((((a.getD (z3).toNat zerO)).R).xy = (((b.getD (z3).toNat zerO)).R).xy)) && ((decide ((((a.getD (z3).toNat zerO)).R).xz = (((b.getD (z3).toNat zerO)).R).xz)) && ((decide ((((a.getD (z3).toNat zerO)).R).yx = (((b.getD (z3).toNat zerO)).R).yx)) && ((decide ((((a.getD (z3).toNat zerO)).R).yy = (((b.getD (z3).toNat zerO)).R).yy)) && ((decide ((((a.getD (z3).toNat zerO)).R).yz = (((b.getD (z3).toNat zerO)).R).yz)) && ((decide ((((a.getD (z3).toNat zerO)).R).zx = (((b.getD (z3).toNat zerO)).R).zx)) && ((decide ((((a.getD (z3).toNat zerO)).R).zy = (((b.getD (z3).toNat zerO)).R).zy)) && ((decide ((((a.getD (z3).toNat zerO)).R).zz = (((b.getD (z3).toNat zerO)).R).zz)) && ((decide ((((a.getD (z3).toNat zerO)).T).x = (((b.getD (z3).toNat zerO)).T).x)) && ((decide ((((a.getD (z3).toNat zerO)).T).y = (((b.getD (z3).toNat zerO)).T).y)) && ((decide ((((a.getD (z3).toNat zerO)).T).z = (((b.getD (z3).toNat zerO)).T).z)) && true))))))))))))) = true →
  (false, ()) = (smO a b, ())) ∧
 ((!((decide ((((a.getD (z3).toNat zerO)).R).xx = (((b.getD (z3).toNat zerO)).R).xx)) && ((decide ((((a.getD (z3).toNat zerO)).R).xy = (((b.getD (z3).toNat zerO)).R).xy)) && ((decide ((((a.getD (z3).toNat zerO)).R).xz = (((b.getD (z3).toNat zerO)).R).xz)) && ((decide ((((a.getD (z3).toNat zerO)).R).yx = (((b.getD (z3).toNat zerO)).R).yx)) && ((decide ((((a.getD (z3).toNat zerO)).R).yy = (((b.getD (z3).toNat zerO)).R).yy)) && ((decide ((((a.getD (z3).toNat zerO)).R).yz = (((b.getD (z3).toNat zerO)).R).yz)) && ((decide ((((a.getD (z3).toNat zerO)).R).zx = (((b.getD (z3).toNat zerO)).R).zx)) && ((decide ((((a.getD (z3).toNat zerO)).R).zy = (((b.getD (z3).toNat zerO)).R).zy)) && ((decide ((((a.getD (z3).toNat zerO)).R).zz = (((b.getD (z3).toNat zerO)).R).zz)) && ((decide ((((a.getD (z3).toNat zerO)).T).x = (((b.getD (z3).toNat zerO)).T).x)) && ((decide ((((a.getD (z3).toNat zerO)).T).y = (((b.getD (z3).toNat zerO)).T).y)) && ((decide ((((a.getD (z3).toNat zerO)).T).z = (((b.getD (z3).toNat zerO)).T).z)) && true))))))))))))) = false →
 (smInv a b ((w64 (z3 + 1))) ∧
 ((decide (0 ≤ opMu a ((w64 (z3 + 1))))) = true ∧
 (decide (opMu a ((w64 (z3 + 1))) < opMu a z3)) = true))))))) ∧
((decide (z3 < (a.length : Int))) = false →
(true, ()) = (smO a b, ())))))))))
theorem r_r5Same (x : HL C_r5Same.args) : runs (env0 [] [(13, 4, { fix := [(.tmp 0, .list .op), (.tmp 1, .list .op)], vars := [(.tmp 13, .int .i64)], inv := fun y v => smInv y.1 y.2.1 v.1, mu := fun y v => opMu y.1 v.1 })] []) 400 13 C_r5Same x = T_r5Same x.1 x.2.1 := by kernel_rfl
theorem p_r5Same (a : List Op3) (b : List Op3) (h0 : (Sh.list .op).okA a) (h1 : (Sh.list .op).okA b) : T_r5Same a b := by
  have hb : a.length * 96 ≤ room := h0.2
  unfold T_r5Same smO
  refine ⟨fun h => ?_, fun h => ?_⟩
  · have : a ≠ b := fun e => by rw [e] at h; simp at h
    rw [decide_eq_false this]
  have hl : a.length = b.length := by have : (a.length : Int) = b.length := by simpa using h
                                      omega
  refine ⟨⟨hl, by omega, by omega, fun k hk => by simp at hk⟩, fun i _ _ hI => ⟨fun hi => ?_, fun hi => ?_⟩⟩
  · have hi := of_decide_eq_true hi
    obtain ⟨e1, e2, e3⟩ := opMu_next hb hI.2.1 hi
    rw [eqOc']
    refine ⟨⟨hI.2.1, hi⟩, ⟨hI.2.1, by omega⟩, fun h1 => ?_, fun h1 => ⟨?_, e2, e3⟩⟩
    · rw [decide_eq_false (sm_ne (by simpa using h1))]
    · rw [e1]; exact sm_next hI hi (by simpa using h1)
  · rw [decide_eq_true (sm_end hI (of_decide_eq_false hi))]
theorem s_r5Same : Sound Tryz.prog 13 C_r5Same :=
  sound_of_eq (env0_ok (.nil)) (fun x => T_r5Same x.1 x.2.1) r_r5Same fun x ok hp => p_r5Same x.1 x.2.1 ok.1 ok.2.1
noncomputable def C_flat6 : Contract := { args := [.int .i64, .int .i64, .int .i64, .agg .vec], res := [.agg .op], pre := fun _ => True, F := fun x => ((flO x.1 x.2.1 x.2.2.1 x.2.2.2.1 : Op3), ()) }
def T_flat6 (x : Int) (y : Int) (z : Int) (t : V3) : Prop :=
  ((Op3.mk (M3.mk x 0 0 0 y 0 0 0 z) t), ()) = (flO x y z t, ())
theorem r_flat6 (x : HL C_flat6.args) : runs (env0 [] [] []) 400 45 C_flat6 x = T_flat6 x.1 x.2.1 x.2.2.1 x.2.2.2.1 := by kernel_rfl
theorem p_flat6 (x : Int) (y : Int) (z : Int) (t : V3) (h0 : (Sh.int .i64).okA x) (h1 : (Sh.int .i64).okA y) (h2 : (Sh.int .i64).okA z) (h3 : (Sh.agg .vec).okA t) : T_flat6 x y z t := by
  unfold T_flat6
  rfl
theorem s_flat6 : Sound Tryz.prog 45 C_flat6 :=
  sound_of_eq (env0_ok (.nil)) (fun x => T_flat6 x.1 x.2.1 x.2.2.1 x.2.2.2.1) r_flat6 fun x ok hp => p_flat6 x.1 x.2.1 x.2.2.1 x.2.2.2.1 ok.1 ok.2.1 ok.2.2.1 ok.2.2.2.1
noncomputable def C_four6 : Contract := { args := [], res := [.list .op], pre := fun _ => True, F := fun x => ((foU : List Op3), ()) }
def T_four6  : Prop :=
  (True ∧
(True ∧
(True ∧
(True ∧
([(flO (-1) (-1) 1 (V3.mk 0 0 0)), (flO (-1) 1 (-1) (V3.mk 0 0 0)), (flO 1 (-1) (-1) (V3.mk 0 0 0)), (flO 1 1 1 (V3.mk 0 0 0))], ()) = (foU, ())))))
theorem r_four6 (x : HL C_four6.args) : runs (env0 [(45, C_flat6)] [] []) 400 21 C_four6 x = T_four6  := by kernel_rfl
theorem p_four6   : T_four6  := by
  unfold T_four6
  exact ⟨trivial, trivial, trivial, trivial, rfl⟩
theorem s_four6 : Sound Tryz.prog 21 C_four6 :=
  sound_of_eq (env0_ok (.cons s_flat6 (.nil))) (fun x => T_four6 ) r_four6 fun x ok hp => p_four6  
noncomputable def C_pair6 : Contract := { args := [], res := [.list .op], pre := fun _ => True, F := fun x => ((paH : List Op3), ()) }
def T_pair6  : Prop :=
  (True ∧
(inB foU 0 ∧
(True ∧
(inB foU 3 ∧
([((foU.getD 0 zerO)), ((foU.getD 3 zerO))], ()) = (paH, ())))))
theorem r_pair6 (x : HL C_pair6.args) : runs (env0 [(21, C_four6)] [] []) 400 22 C_pair6 x = T_pair6  := by kernel_rfl
theorem p_pair6   : T_pair6  := by
  unfold T_pair6
  exact ⟨trivial, ⟨by decide, by decide⟩, trivial, ⟨by decide, by decide⟩, rfl⟩
theorem s_pair6 : Sound Tryz.prog 22 C_pair6 :=
  sound_of_eq (env0_ok (.cons s_four6 (.nil))) (fun x => T_pair6 ) r_pair6 fun x ok hp => p_pair6  
noncomputable def C_awake6 : Contract := { args := [], res := [.bool], pre := fun _ => True, F := fun x => ((true : Bool), ()) }
def T_awake6  : Prop :=
  (True ∧
(True ∧
(True ∧
∀ z0 : List (List Int),
(z0 = csC foU paH →
∀ z2 : Int,
(z2 = boE foU paH →
(True ∧
(True ∧
(True ∧
∀ z4 : Bool,
(z4 = noB foU paH →
∀ z6 : Int,
(z6 = boE foU paH →
(True ∧
(True ∧
(inB foU 1 ∧
(True ∧
(inB foU 3 ∧
(True ∧
(((decide (z2 = 0)) = true →
 (((decide (z6 = 0)) = true →
  (((decide (joE paH ([((foU.getD 1 zerO)), ((foU.getD 3 zerO))]) = 0)) = true →
   ((z4 = true →
    (True ∧
    ∀ z12 : Bool,
    (z12 = smC z0 ([[0, 3], [1, 2]]) →
    ((z12 = true →
     (True ∧
     (True ∧
     ∀ z15 : Bool,
     (z15 = smO (joL paH ([((foU.getD 1 zerO)), ((foU.getD 3 zerO))])) foU →
     (z15, ()) = (true, ()))))) ∧
    (z12 = false →
    (false, ()) = (true, ())))))) ∧
   (z4 = false →
   (false, ()) = (true, ())))) ∧
  ((decide (joE paH ([((foU.getD 1 zerO)), ((foU.getD 3 zerO))]) = 0)) = false →
  (false, ()) = (true, ())))) ∧
 ((decide (z6 = 0)) = false →
 (false, ()) = (true, ())))) ∧
((decide (z2 = 0)) = false →
(false, ()) = (true, ())))))))))))))))))))
theorem r_awake6 (x : HL C_awake6.args) : runs (env0 [(21, C_four6), (22, C_pair6), (9, C_sCosets.hid), (12, C_sNormal.hid), (7, C_sJoin.hid), (20, C_cuts6.hid), (13, C_r5Same.hid)] [] []) 3000 4 C_awake6 x = T_awake6  := by kernel_rfl
theorem p_awake6   : T_awake6  := by
  unfold T_awake6
  refine ⟨trivial, trivial, trivial, fun z0 hz0 z2 hz2 => ⟨trivial, trivial, trivial, fun z4 hz4 z6 hz6 => ⟨trivial, trivial, ⟨by decide, by decide⟩, trivial, ⟨by decide, by decide⟩, trivial, ?_⟩⟩⟩
  have e5 : [foU.getD 1 zerO, foU.getD 3 zerO] = twF := rfl
  rw [hw1] at hz0
  rw [hw2] at hz2 hz6
  rw [hw3] at hz4
  rw [e5, hw4, hw5, hz0, hz2, hz4, hz6]
  exact ⟨fun _ => ⟨fun _ => ⟨fun _ => ⟨fun _ => ⟨trivial, fun z hz => ⟨fun _ => ⟨trivial, trivial, fun y hy => by rw [hy]; rfl⟩, fun c => absurd c (by rw [hz]; decide)⟩⟩, fun c => absurd c (by decide)⟩, fun c => absurd c (by decide)⟩, fun c => absurd c (by decide)⟩, fun c => absurd c (by decide)⟩
theorem s_awake6 : Sound Tryz.prog 4 C_awake6 :=
  sound_of_eq (env0_ok (.cons s_four6 (.cons s_pair6 (.cons s_sCosets.hid (.cons s_sNormal.hid (.cons s_sJoin.hid (.cons s_cuts6.hid (.cons s_r5Same.hid (.nil))))))))) (fun x => T_awake6 ) r_awake6 fun x ok hp => p_awake6  
end Go.Fx
