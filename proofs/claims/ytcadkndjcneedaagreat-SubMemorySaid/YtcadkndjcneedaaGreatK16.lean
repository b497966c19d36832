/-
  Contracts: r6DocCosets.
-/
import Derived.Test.YtcadkndjcneedaaGreatK15
namespace Go.Fx
open Go Go.Proofs
set_option maxRecDepth 100000
set_option linter.unusedVariables false
set_option linter.unusedSimpArgs false
set_option linter.unusedSectionVars false
noncomputable def C_r6DocCosets : Contract := { args := [.list .op, .list .op], res := [.lists .int, .int .i64], pre := fun _ => True, F := fun x => ((csC x.1 x.2.1 : List (List Int)), (boE x.1 x.2.1 : Int), ()) }
def T_r6DocCosets (g : List Op3) (h : List Op3) : Prop :=
  (True ∧
∀ z2 : Int,
(z2 = two g h →
(((decide (z2 = 0)) = true →
 (True ∧
 ∀ z5 : Bool,
 (z5 = wiB g h →
 (((!z5) = true →
  ([], (6, ())) = (csC g h, (boE g h, ()))) ∧
 ((!z5) = false →
 (((!(decide (z2 = 0))) = true →
  ([], (z2, ())) = (csC g h, (boE g h, ()))) ∧
 ((!(decide (z2 = 0))) = false →
 (n192 (g.length : Int) ∧
 ∀ z9 : List (List Bool),
 (z9 = sqB (g.length : Int) →
 (dcO g h z9 0 ∧
 ∀ z11 : List (List Bool),
 ∀ z12 : Int,
 ((decide ((-9223372036854775808) ≤ z12)) = true →
 ((decide (z12 ≤ 9223372036854775807)) = true →
 (dcO g h z11 z12 →
 (eqLs (lensI z11) (lensI z9) →
 (((decide (z12 < (g.length : Int))) = true →
  (inB g z12 ∧
  (dcI g h z12 z11 0 ∧
  ∀ z18 : List (List Bool),
  ∀ z19 : Int,
  ((decide ((-9223372036854775808) ≤ z19)) = true →
  ((decide (z19 ≤ 9223372036854775807)) = true →
  (dcI g h z12 z18 z19 →
  (eqLs (lensI z18) (lensI z11) →
  (((decide (z19 < (g.length : Int))) = true →
   (inB g z19 ∧
   (inB z18 z12 ∧
   (frmO (((g.getD (z12).toNat zerO))) ∧
   (mulPre ((invO (((g.getD (z12).toNat zerO))))) (((g.getD (z19).toNat zerO))) ∧
   (True ∧
   (inB ((z18.getD (z12).toNat [])) z19 ∧
   (dcI g h z12 (lset z18 z12 (lset ((z18.getD (z12).toNat [])) z19 (memO h ((mulO ((invO (((g.getD (z12).toNat zerO))))) (((g.getD (z19).toNat zerO)))))))) ((w64 (z19 + 1))) ∧
   ((decide (0 ≤ opMu g ((w64 (z19 + 1))))) = true ∧
   (decide (opMu g ((w64 (z19 + 1))) < opMu g z19)) = true))))))))) ∧
  ((decide (z19 < (g.length : Int))) = false →
  (dcO g h z18 ((w64 (z12 + 1))) ∧
  ((decide (0 ≤ opMu g ((w64 (z12 + 1))))) = true ∧
  (decide (opMu g ((w64 (z12 + 1))) < opMu g z12)) = true))))))))))) ∧
 ((decide (z12 < (g.length : Int))) = false →
 (cuP (g.length : Int) z11 ∧
 ∀ z18 : List (List Int),
 (z18 = cuL (g.length : Int) z11 →
 (z18, (0, ())) = (csC g h, (boE g h, ())))))))))))))))))))) ∧
((decide (z2 = 0)) = false →
(((!(decide (z2 = 0))) = true →
 ([], (z2, ())) = (csC g h, (boE g h, ()))) ∧
((!(decide (z2 = 0))) = false →
(n192 (g.length : Int) ∧
∀ z6 : List (List Bool),
(z6 = sqB (g.length : Int) →
(dcO g h z6 0 ∧
∀ z8 : List (List Bool),
∀ z9 : Int,
((decide ((-9223372036854775808) ≤ z9)) = true →
((decide (z9 ≤ 9223372036854775807)) = true →
(dcO g h z8 z9 →
(eqLs (lensI z8) (lensI z6) →
(((decide (z9 < (g.length : Int))) = true →
 (inB g z9 ∧
 (dcI g h z9 z8 0 ∧
 ∀ z15 : List (List Bool),
 ∀ z16 : Int,
 ((decide ((-9223372036854775808) ≤ z16)) = true →
 ((decide (z16 ≤ 9223372036854775807)) = true →
 (dcI g h z9 z15 z16 →
 (eqLs (lensI z15) (lensI z8) →
 (((decide (z16 < (g.length : Int))) = true →
  (inB g z16 ∧
  (inB z15 z9 ∧
  (frmO (((g.getD (z9).toNat zerO))) ∧
  (mulPre ((invO (((g.getD (z9).toNat zerO))))) (((g.getD (z16).toNat zerO))) ∧
  (True ∧
  (inB ((z15.getD (z9).toNat [])) z16 ∧
  (dcI g h z9 (lset z15 z9 (lset ((z15.getD (z9).toNat [])) z16 (memO h ((mulO ((invO (((g.getD (z9).toNat zerO))))) (((g.getD (z16).toNat zerO)))))))) ((w64 (z16 + 1))) ∧
  ((decide (0 ≤ opMu g ((w64 (z16 + 1))))) = true ∧
  (decide (opMu g ((w64 (z16 + 1))) < opMu g z16)) = true))))))))) ∧
 ((decide (z16 < (g.length : Int))) = false →
 (dcO g h z15 ((w64 (z9 + 1))) ∧
 ((decide (0 ≤ opMu g ((w64 (z9 + 1))))) = true ∧
 (decide (opMu g ((w64 (z9 + 1))) < opMu g z9)) = true))))))))))) ∧
((decide (z9 < (g.length : Int))) = false →
(cuP (g.length : Int) z8 ∧
∀ z15 : List (List Int),
(z15 = cuL (g.length : Int) z8 →
(z15, (0, ())) = (csC g h, (boE g h, ())))))))))))))))))))
theorem r_r6DocCosets (x : HL C_r6DocCosets.args) : runs (env0 [(32, C_r6two.hid), (37, C_r6within.hid), (38, C_r6square.hid), (33, C_r6In.hid), (34, C_r3Mul.hid), (39, C_r3Back.hid), (40, C_r6cut.hid)] [(17, 8, { fix := [], vars := [(.itmp 7, .lists .bool), (.tmp 31, .int .i64)], inv := fun y v => dcO x.1 x.2.1 v.1 v.2.1, mu := fun y v => opMu x.1 v.2.1 }), (17, 11, { fix := [(.tmp 31, .int .i64)], vars := [(.itmp 7, .lists .bool), (.tmp 38, .int .i64)], inv := fun y v => dcI x.1 x.2.1 y.1 v.1 v.2.1, mu := fun y v => opMu x.1 v.2.1 })] []) 1500 17 C_r6DocCosets x = T_r6DocCosets x.1 x.2.1 := by kernel_rfl
theorem p_r6DocCosets (g : List Op3) (h : List Op3) (h0 : (Sh.list .op).okA g) (h1 : (Sh.list .op).okA h) : T_r6DocCosets g h := by
  have hb : g.length * 96 ≤ room := h0.2
  unfold T_r6DocCosets
  refine ⟨trivial, fun e he => ⟨fun qz => ⟨trivial, fun w hw => ⟨fun q => ?_, fun q => ⟨fun q2 => ?_, fun _ => ?_⟩⟩⟩, fun qz => ⟨fun _ => ?_, fun q2 => ?_⟩⟩⟩
  · have hz : two g h = 0 := by rw [← he]; exact of_decide_eq_true qz
    have hb6 : boE g h = 6 := by unfold boE; rw [if_pos hz, if_neg (by rw [← hw]; simpa using q)]
    rw [show csC g h = [] from if_neg (by rw [hb6]; decide), hb6]
  · rw [of_decide_eq_true qz] at q2; simp at q2
  rotate_left
  · have hz : two g h ≠ 0 := by rw [← he]; exact of_decide_eq_false qz
    have hbt : boE g h = two g h := by unfold boE; rw [if_neg hz]
    rw [show csC g h = [] from if_neg (by rw [hbt]; exact hz), hbt, he]
  · exact absurd (by simpa using q2) (of_decide_eq_false qz)
  have hz2 : two g h = 0 := by rw [← he]; exact of_decide_eq_true qz
  have hz : boE g h = 0 := by unfold boE; rw [if_pos hz2, if_pos (by rw [← hw]; simpa using q)]
  obtain ⟨hg, hh, hs, _, _⟩ := bo_zero hz
  have hF := (chk_grp hg).1
  have h192 := chk_len hg
  refine ⟨⟨by omega, by omega⟩, fun s hsq => ?_⟩
  subst hsq
  refine ⟨dc_0 g h, fun a i _ _ hO _ => ⟨fun hi => ?_, fun hi => ?_⟩⟩
  · have hi := of_decide_eq_true hi
    have ga := getD_mem hO.1.1 hi zerO
    refine ⟨⟨hO.1.1, hi⟩, dc_in hO, fun b j _ _ hI _ => ⟨fun hj => ?_, fun hj => dc_out hb hO.1.1 hi hI (of_decide_eq_false hj)⟩⟩
    have hj := of_decide_eq_true hj
    have gb := getD_mem hI.1.1 hj zerO
    obtain ⟨n1, n2, n3, n4⟩ := dc_next hb hO.1.1 hi hI hj
    exact ⟨⟨hI.1.1, hj⟩, n1, errO_ok.2 (hF _ ga), frm_pre (hF _ (inv_in hg ga).1) (hF _ gb), trivial, n2, n3, n4⟩
  · obtain ⟨d1, d2⟩ := dc_end hz hO (of_decide_eq_false hi)
    exact ⟨d1, fun r hr => by rw [hr, d2, hz]⟩
theorem s_r6DocCosets : Sound Tryz.prog 17 C_r6DocCosets :=
  sound_of_eqs (fun x => env0 [(32, C_r6two.hid), (37, C_r6within.hid), (38, C_r6square.hid), (33, C_r6In.hid), (34, C_r3Mul.hid), (39, C_r3Back.hid), (40, C_r6cut.hid)] [(17, 8, { fix := [], vars := [(.itmp 7, .lists .bool), (.tmp 31, .int .i64)], inv := fun y v => dcO x.1 x.2.1 v.1 v.2.1, mu := fun y v => opMu x.1 v.2.1 }), (17, 11, { fix := [(.tmp 31, .int .i64)], vars := [(.itmp 7, .lists .bool), (.tmp 38, .int .i64)], inv := fun y v => dcI x.1 x.2.1 y.1 v.1 v.2.1, mu := fun y v => opMu x.1 v.2.1 })] []) (fun _ => rfl) (fun _ => env0_ok (.cons s_r6two.hid (.cons s_r6within.hid (.cons s_r6square.hid (.cons s_r6In.hid (.cons s_r3Mul.hid (.cons s_r3Back.hid (.cons s_r6cut.hid (.nil))))))))) (fun x => T_r6DocCosets x.1 x.2.1) r_r6DocCosets fun x ok hp => p_r6DocCosets x.1 x.2.1 ok.1 ok.2.1
end Go.Fx
