/-
  Contracts: gInverses, gRotations, gCentring.
-/
import Derived.Test.YtjojlcakpoacjaaK8
namespace Go.Fx
open Go Go.Proofs
set_option maxRecDepth 100000
set_option linter.unusedVariables false
set_option linter.unusedSimpArgs false
set_option linter.unusedSectionVars false
noncomputable def C_gInverses : Contract := { args := [.list .op], res := [.list .int, .int .i64], pre := fun _ => True, F := fun x => ((invL x.1 : List Int), (chkE x.1 : Int), ()) }
def T_gInverses (g : List Op3) : Prop :=
  (True ∧
∀ z1 : List (List Int),
(z1 = tabL g →
∀ z3 : Int,
(z3 = chkE g →
(((!(decide (z3 = 0))) = true →
 ([], (z3, ())) = (invL g, (chkE g, ()))) ∧
((!(decide (z3 = 0))) = false →
(True ∧
(True ∧
∀ z6 : Int,
(z6 = idxO g oneO →
(ivInv z1 z6 [] 0 ∧
∀ z8 : List Int,
∀ z9 : Int,
((decide ((-9223372036854775808) ≤ z9)) = true →
((decide (z9 ≤ 9223372036854775807)) = true →
(ivInv z1 z6 z8 z9 →
(lfit 8 z8 →
(((decide (z9 < (z1.length : Int))) = true →
 (inB z1 z9 ∧
 (True ∧
 ∀ z15 : Int,
 (z15 = idxI ((z1.getD (z9).toNat [])) z6 →
 (lfit 8 (lapp z8 [z15]) ∧
 (ivInv z1 z6 (lapp z8 [z15]) ((w64 (z9 + 1))) ∧
 ((decide (0 ≤ liMu z1 ((w64 (z9 + 1))))) = true ∧
 (decide (liMu z1 ((w64 (z9 + 1))) < liMu z1 z9)) = true))))))) ∧
((decide (z9 < (z1.length : Int))) = false →
(z8, (0, ())) = (invL g, (chkE g, ())))))))))))))))))
theorem r_gInverses (x : HL C_gInverses.args) : runs (env0 [(19, C_gTable.hid), (22, C_opOne), (47, C_gIndexO.hid), (48, C_gIndexI.hid)] [(20, 7, { fix := [(.tmp 21, .lists .int), (.tmp 6, .int .i64)], vars := [(.tmp 7, .list .int), (.tmp 23, .int .i64)], inv := fun y v => ivInv y.1 y.2.1 v.1 v.2.1, mu := fun y v => liMu y.1 v.2.1 })] []) 400 20 C_gInverses x = T_gInverses x.1 := by kernel_rfl
theorem p_gInverses (g : List Op3) (h0 : (Sh.list .op).okA g) : T_gInverses g := by
  refine ⟨trivial, fun t ht e he => ⟨fun h => ?_, fun h => ?_⟩⟩
  · have hne : chkE g ≠ 0 := by rw [← he]; simpa using h
    unfold invL; rw [if_neg hne, he]
  have hz : chkE g = 0 := by rw [← he]; simpa using h
  have h192 := chk_len hz
  have htl : t = g.map (rowO g) := by rw [ht]; unfold tabL; rw [if_pos hz]
  have hlen : t.length = g.length := by rw [htl]; simp
  refine ⟨trivial, trivial, fun x hx => ⟨⟨by omega, by omega, by simp⟩, fun l i _ _ hI hfit => ⟨fun hi => ?_, fun hi => ?_⟩⟩⟩
  · have hi := of_decide_eq_true hi
    have i0 := hI.1
    have e1 : w64 (i + 1) = i + 1 := w64_id (by omega) (by omega)
    refine ⟨⟨i0, hi⟩, trivial, fun k hk => ⟨?_, ?_⟩⟩
    · show (l ++ [k]).length * 8 ≤ 140737488355328
      rw [hI.2.2]; simp; omega
    · rw [e1]
      refine ⟨⟨by omega, by omega, ?_⟩, decide_eq_true (by unfold liMu; omega), decide_eq_true (by unfold liMu; omega)⟩
      rw [take_succ i0 hi [], List.map_append, ← hI.2.2, hk]
      rfl
  · unfold invL
    rw [if_pos hz, hI.2.2, take_end (of_decide_eq_false hi), htl, List.map_map, hx, hz]
    rfl
theorem s_gInverses : Sound Try.prog 20 C_gInverses :=
  sound_of_eq (env0_ok (.cons s_gTable.hid (.cons s_opOne (.cons s_gIndexO.hid (.cons s_gIndexI.hid (.nil)))))) (fun x => T_gInverses x.1) r_gInverses fun x ok hp => p_gInverses x.1 ok.1
noncomputable def C_gRotations : Contract := { args := [.list .op], res := [.list .mat, .int .i64], pre := fun _ => True, F := fun x => ((rotL x.1 : List M3), (chkE x.1 : Int), ()) }
def T_gRotations (g : List Op3) : Prop :=
  (True ∧
∀ z1 : Int,
(z1 = chkE g →
(((!(decide (z1 = 0))) = true →
 ([], (z1, ())) = (rotL g, (chkE g, ()))) ∧
((!(decide (z1 = 0))) = false →
(roInv g [] 0 ∧
∀ z4 : List M3,
∀ z5 : Int,
((decide ((-9223372036854775808) ≤ z5)) = true →
((decide (z5 ≤ 9223372036854775807)) = true →
(roInv g z4 z5 →
(lfit 72 z4 →
(((decide (z5 < (g.length : Int))) = true →
 (inB g z5 ∧
 (((decide ((z4.length : Int) = 0)) = true →
  (lfit 72 (lapp z4 ([((g.getD (z5).toNat zerO)).R])) ∧
  (roInv g (lapp z4 ([((g.getD (z5).toNat zerO)).R])) ((w64 (z5 + 1))) ∧
  ((decide (0 ≤ opMu g ((w64 (z5 + 1))))) = true ∧
  (decide (opMu g ((w64 (z5 + 1))) < opMu g z5)) = true)))) ∧
 ((decide ((z4.length : Int) = 0)) = false →
 (inB z4 (((z4.length : Int) - 1)) ∧
 (True ∧
 (((!(decide (cmpM ((z4.getD (((z4.length : Int) - 1)).toNat zerO.R)) (((g.getD (z5).toNat zerO)).R) = 0))) = true →
  (lfit 72 (lapp z4 ([((g.getD (z5).toNat zerO)).R])) ∧
  (roInv g (lapp z4 ([((g.getD (z5).toNat zerO)).R])) ((w64 (z5 + 1))) ∧
  ((decide (0 ≤ opMu g ((w64 (z5 + 1))))) = true ∧
  (decide (opMu g ((w64 (z5 + 1))) < opMu g z5)) = true)))) ∧
 ((!(decide (cmpM ((z4.getD (((z4.length : Int) - 1)).toNat zerO.R)) (((g.getD (z5).toNat zerO)).R) = 0))) = false →
 (roInv g z4 ((w64 (z5 + 1))) ∧
 ((decide (0 ≤ opMu g ((w64 (z5 + 1))))) = true ∧
 (decide (opMu g ((w64 (z5 + 1))) < opMu g z5)) = true)))))))))) ∧
((decide (z5 < (g.length : Int))) = false →
(z4, (0, ())) = (rotL g, (chkE g, ())))))))))))))
theorem r_gRotations (x : HL C_gRotations.args) : runs (env0 [(16, C_gCheck.hid), (45, C_Compare.hid)] [(23, 6, { fix := [(.tmp 13, .list .op)], vars := [(.tmp 5, .list .mat), (.tmp 15, .int .i64)], inv := fun y v => roInv y.1 v.1 v.2.1, mu := fun y v => opMu y.1 v.2.1 })] []) 400 23 C_gRotations x = T_gRotations x.1 := by kernel_rfl
theorem p_gRotations (g : List Op3) (h0 : (Sh.list .op).okA g) : T_gRotations g := by
  have hb : g.length * 96 ≤ room := h0.2
  refine ⟨trivial, fun e he => ⟨fun h => ?_, fun h => ?_⟩⟩
  · have hne : chkE g ≠ 0 := by rw [← he]; simpa using h
    unfold rotL; rw [if_neg hne, he]
  have hz : chkE g = 0 := by rw [← he]; simpa using h
  have h192 := chk_len hz
  refine ⟨⟨by omega, by omega, rfl⟩, fun l i _ _ hI hfit => ⟨fun hi => ?_, fun hi => ?_⟩⟩
  · have hi := of_decide_eq_true hi
    have i0 := hI.1
    have hlen := rot_len g i
    obtain ⟨e1, e2, e3⟩ := opMu_next hb i0 hi
    have nx : ∀ l', l' = rotS l (g.getD i.toNat zerO) → roInv g l' (w64 (i + 1)) ∧ (decide (0 ≤ opMu g (w64 (i + 1))) = true ∧ decide (opMu g (w64 (i + 1)) < opMu g i) = true) := fun l' h' => by
      refine ⟨?_, e2, e3⟩
      rw [e1]
      refine ⟨by omega, by omega, ?_⟩
      rw [take_succ i0 hi zerO, rotF_snoc, ← hI.2.2]; exact h'
    have fit : ∀ x, lfit 72 (lapp l [x]) := fun x => by
      show (l ++ [x]).length * 72 ≤ 140737488355328
      rw [List.length_append, hI.2.2]; simp; omega
    refine ⟨⟨i0, hi⟩, fun h1 => ⟨fit _, nx _ ?_⟩, fun h1 => ⟨?_, trivial, fun h2 => ⟨fit _, nx _ ?_⟩, fun h2 => nx _ ?_⟩⟩
    · have h1 := of_decide_eq_true h1
      unfold rotS; rw [if_pos (.inl (by omega))]; rfl
    · have h1 := of_decide_eq_false h1
      exact ⟨by omega, by omega⟩
    · have h1 := of_decide_eq_false h1
      rw [show ((l.length : Int) - 1).toNat = l.length - 1 by omega] at h2
      unfold rotS
      rw [if_pos (.inr fun e => by rw [e] at h2; cases h2)]
      rfl
    · have h1 := of_decide_eq_false h1
      unfold rotS; rw [if_neg ?_]
      rw [show ((l.length : Int) - 1).toNat = l.length - 1 by omega] at h2
      rintro (h3 | h3)
      · omega
      · exact h3 (by simpa using h2)
  · unfold rotL
    rw [if_pos hz, hI.2.2, take_end (of_decide_eq_false hi), hz]
theorem s_gRotations : Sound Try.prog 23 C_gRotations :=
  sound_of_eq (env0_ok (.cons s_gCheck.hid (.cons s_Compare.hid (.nil)))) (fun x => T_gRotations x.1) r_gRotations fun x ok hp => p_gRotations x.1 ok.1
noncomputable def C_gCentring : Contract := { args := [.list .op], res := [.list .vec, .int .i64], pre := fun _ => True, F := fun x => ((cenL x.1 : List V3), (chkE x.1 : Int), ()) }
def T_gCentring (g : List Op3) : Prop :=
  (True ∧
∀ z1 : Int,
(z1 = chkE g →
(((!(decide (z1 = 0))) = true →
 ([], (z1, ())) = (cenL g, (chkE g, ()))) ∧
((!(decide (z1 = 0))) = false →
(ceInv g [] 0 ∧
∀ z4 : List V3,
∀ z5 : Int,
((decide ((-9223372036854775808) ≤ z5)) = true →
((decide (z5 ≤ 9223372036854775807)) = true →
(ceInv g z4 z5 →
(lfit 24 z4 →
(((decide (z5 < (g.length : Int))) = true →
 (inB g z5 ∧
 (True ∧
 ((((decide ((((g.getD (z5).toNat zerO)).R).xx = (oneZ 1).xx)) && ((decide ((((g.getD (z5).toNat zerO)).R).xy = (oneZ 1).xy)) && ((decide ((((g.getD (z5).toNat zerO)).R).xz = (oneZ 1).xz)) && ((decide ((((g.getD (z5).toNat zerO)).R).yx = (oneZ 1).yx)) && ((decide ((((g.getD (z5).toNat zerO)).R).yy = (oneZ 1).yy)) && ((decide ((((g.getD (z5).toNat zerO)).R).yz = (oneZ 1).yz)) && ((decide ((((g.getD (z5).toNat zerO)).R).zx = (oneZ 1).zx)) && ((decide ((((g.getD (z5).toNat zerO)).R).zy = (oneZ 1).zy)) && ((decide ((((g.getD (z5).toNat zerO)).R).zz = (oneZ 1).zz)) && true))))))))) = true →
  (lfit 24 (lapp z4 ([((g.getD (z5).toNat zerO)).T])) ∧
  (ceInv g (lapp z4 ([((g.getD (z5).toNat zerO)).T])) ((w64 (z5 + 1))) ∧
  ((decide (0 ≤ opMu g ((w64 (z5 + 1))))) = true ∧
  (decide (opMu g ((w64 (z5 + 1))) < opMu g z5)) = true)))) ∧
 (((decide ((((g.getD (z5).toNat zerO)).R).xx = (oneZ 1).xx)) && ((decide ((((g.getD (z5).toNat zerO)).R).xy = (oneZ 1).xy)) && ((decide ((((g.getD (z5).toNat zerO)).R).xz = (oneZ 1).xz)) && ((decide ((((g.getD (z5).toNat zerO)).R).yx = (oneZ 1).yx)) && ((decide ((((g.getD (z5).toNat zerO)).R).yy = (oneZ 1).yy)) && ((decide ((((g.getD (z5).toNat zerO)).R).yz = (oneZ 1).yz)) && ((decide ((((g.getD (z5).toNat zerO)).R).zx = (oneZ 1).zx)) && ((decide ((((g.getD (z5).toNat zerO)).R).zy = (oneZ 1).zy)) && ((decide ((((g.getD (z5).toNat zerO)).R).zz = (oneZ 1).zz)) && true))))))))) = false →
 (ceInv g z4 ((w64 (z5 + 1))) ∧
 ((decide (0 ≤ opMu g ((w64 (z5 + 1))))) = true ∧
 (decide (opMu g ((w64 (z5 + 1))) < opMu g z5)) = true))))))) ∧
((decide (z5 < (g.length : Int))) = false →
(z4, (0, ())) = (cenL g, (chkE g, ())))))))))))))
theorem r_gCentring (x : HL C_gCentring.args) : runs (env0 [(16, C_gCheck.hid), (52, C_Identity)] [(24, 6, { fix := [(.tmp 13, .list .op)], vars := [(.tmp 5, .list .vec), (.tmp 15, .int .i64)], inv := fun y v => ceInv y.1 v.1 v.2.1, mu := fun y v => opMu y.1 v.2.1 })] []) 400 24 C_gCentring x = T_gCentring x.1 := by kernel_rfl
theorem p_gCentring (g : List Op3) (h0 : (Sh.list .op).okA g) : T_gCentring g := by
  have hb : g.length * 96 ≤ room := h0.2
  refine ⟨trivial, fun e he => ⟨fun h => ?_, fun h => ?_⟩⟩
  · have hne : chkE g ≠ 0 := by rw [← he]; simpa using h
    unfold cenL; rw [if_neg hne, he]
  have hz : chkE g = 0 := by rw [← he]; simpa using h
  have h192 := chk_len hz
  refine ⟨⟨by omega, by omega, rfl⟩, fun l i _ _ hI hfit => ⟨fun hi => ?_, fun hi => ?_⟩⟩
  · have hi := of_decide_eq_true hi
    have i0 := hI.1
    obtain ⟨e1, e2, e3⟩ := opMu_next hb i0 hi
    have hlen := cen_len g i
    rw [eqMc]
    refine ⟨⟨i0, hi⟩, trivial, fun h1 => ⟨?_, ?_, e2, e3⟩, fun h1 => ⟨?_, e2, e3⟩⟩
    · show (l ++ [_]).length * 24 ≤ 140737488355328
      rw [List.length_append, hI.2.2]; simp; omega
    · rw [e1]
      refine ⟨by omega, by omega, ?_⟩
      rw [take_succ i0 hi zerO, cenF_snoc, ← hI.2.2, if_pos (of_decide_eq_true h1)]; rfl
    · rw [e1]
      refine ⟨by omega, by omega, ?_⟩
      rw [take_succ i0 hi zerO, cenF_snoc, ← hI.2.2, if_neg (of_decide_eq_false h1)]
  · unfold cenL
    rw [if_pos hz, hI.2.2, take_end (of_decide_eq_false hi), hz]
theorem s_gCentring : Sound Try.prog 24 C_gCentring :=
  sound_of_eq (env0_ok (.cons s_gCheck.hid (.cons s_Identity (.nil)))) (fun x => T_gCentring x.1) r_gCentring fun x ok hp => p_gCentring x.1 ok.1
end Go.Fx
