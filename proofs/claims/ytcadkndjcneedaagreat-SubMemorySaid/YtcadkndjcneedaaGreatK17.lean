/-
  Contracts: r6DocClasses, r6DocHeart.
-/
import Derived.Test.YtcadkndjcneedaaGreatK16
namespace Go.Fx
open Go Go.Proofs
set_option maxRecDepth 100000
set_option linter.unusedVariables false
set_option linter.unusedSimpArgs false
set_option linter.unusedSectionVars false
noncomputable def C_r6DocClasses : Contract := { args := [.list .op], res := [.lists .int, .int .i64], pre := fun _ => True, F := fun x => ((clC x.1 : List (List Int)), (chkE x.1 : Int), ()) }
def T_r6DocClasses (g : List Op3) : Prop :=
  (True ∧
∀ z1 : Int,
(z1 = chkE g →
(((!(decide (z1 = 0))) = true →
 ([], (z1, ())) = (clC g, (chkE g, ()))) ∧
((!(decide (z1 = 0))) = false →
(n192 (g.length : Int) ∧
∀ z4 : List (List Bool),
(z4 = sqB (g.length : Int) →
(dkO g z4 0 ∧
∀ z6 : List (List Bool),
∀ z7 : Int,
((decide ((-9223372036854775808) ≤ z7)) = true →
((decide (z7 ≤ 9223372036854775807)) = true →
(dkO g z6 z7 →
(eqLs (lensI z6) (lensI z4) →
(((decide (z7 < (g.length : Int))) = true →
 (inB g z7 ∧
 (dkI g z7 z6 0 ∧
 ∀ z13 : List (List Bool),
 ∀ z14 : Int,
 ((decide ((-9223372036854775808) ≤ z14)) = true →
 ((decide (z14 ≤ 9223372036854775807)) = true →
 (dkI g z7 z13 z14 →
 (eqLs (lensI z13) (lensI z6) →
 (((decide (z14 < (g.length : Int))) = true →
  (inB g z14 ∧
  (mulPre (((g.getD (z7).toNat zerO))) (((g.getD (z14).toNat zerO))) ∧
  (frmO (((g.getD (z7).toNat zerO))) ∧
  (mulPre ((mulO (((g.getD (z7).toNat zerO))) (((g.getD (z14).toNat zerO))))) ((invO (((g.getD (z7).toNat zerO))))) ∧
  (True ∧
  (((decide (0 ≤ idxO g ((mulO ((mulO (((g.getD (z7).toNat zerO))) (((g.getD (z14).toNat zerO))))) ((invO (((g.getD (z7).toNat zerO))))))))) = true →
   (inB z13 z14 ∧
   (inB ((z13.getD (z14).toNat [])) (idxO g ((mulO ((mulO (((g.getD (z7).toNat zerO))) (((g.getD (z14).toNat zerO))))) ((invO (((g.getD (z7).toNat zerO)))))))) ∧
   (dkI g z7 (lset z13 z14 (lset ((z13.getD (z14).toNat [])) (idxO g ((mulO ((mulO (((g.getD (z7).toNat zerO))) (((g.getD (z14).toNat zerO))))) ((invO (((g.getD (z7).toNat zerO)))))))) true)) ((w64 (z14 + 1))) ∧
   ((decide (0 ≤ opMu g ((w64 (z14 + 1))))) = true ∧
   (decide (opMu g ((w64 (z14 + 1))) < opMu g z14)) = true))))) ∧
  ((decide (0 ≤ idxO g ((mulO ((mulO (((g.getD (z7).toNat zerO))) (((g.getD (z14).toNat zerO))))) ((invO (((g.getD (z7).toNat zerO))))))))) = false →
  (dkI g z7 z13 ((w64 (z14 + 1))) ∧
  ((decide (0 ≤ opMu g ((w64 (z14 + 1))))) = true ∧
  (decide (opMu g ((w64 (z14 + 1))) < opMu g z14)) = true)))))))))) ∧
 ((decide (z14 < (g.length : Int))) = false →
 (dkO g z13 ((w64 (z7 + 1))) ∧
 ((decide (0 ≤ opMu g ((w64 (z7 + 1))))) = true ∧
 (decide (opMu g ((w64 (z7 + 1))) < opMu g z7)) = true))))))))))) ∧
((decide (z7 < (g.length : Int))) = false →
(cuP (g.length : Int) z6 ∧
∀ z13 : List (List Int),
(z13 = cuL (g.length : Int) z6 →
(z13, (0, ())) = (clC g, (chkE g, ())))))))))))))))))
theorem r_r6DocClasses (x : HL C_r6DocClasses.args) : runs (env0 [(41, C_r5DocCheck.hid), (38, C_r6square.hid), (42, C_r6At.hid), (34, C_r3Mul.hid), (39, C_r3Back.hid), (40, C_r6cut.hid)] [(18, 6, { fix := [], vars := [(.itmp 5, .lists .bool), (.tmp 21, .int .i64)], inv := fun y v => dkO x.1 v.1 v.2.1, mu := fun y v => opMu x.1 v.2.1 }), (18, 9, { fix := [(.tmp 21, .int .i64)], vars := [(.itmp 5, .lists .bool), (.tmp 27, .int .i64)], inv := fun y v => dkI x.1 y.1 v.1 v.2.1, mu := fun y v => opMu x.1 v.2.1 })] []) 1500 18 C_r6DocClasses x = T_r6DocClasses x.1 := by kernel_rfl
theorem p_r6DocClasses (g : List Op3) (h0 : (Sh.list .op).okA g) : T_r6DocClasses g := by
  have hb : g.length * 96 ≤ room := h0.2
  unfold T_r6DocClasses
  refine ⟨trivial, fun e he => ⟨fun q => ?_, fun q => ?_⟩⟩
  · have hne : chkE g ≠ 0 := by rw [← he]; simpa using q
    rw [show clC g = [] from if_neg hne, he]
  have hg : chkE g = 0 := by rw [← he]; simpa using q
  have h192 := chk_len hg
  obtain ⟨hF, _, _, hcl⟩ := chk_grp hg
  refine ⟨⟨by omega, by omega⟩, fun s hsq => ?_⟩
  subst hsq
  refine ⟨dk_0 g, fun a i _ _ hO _ => ⟨fun hi => ?_, fun hi => ?_⟩⟩
  · have hi := of_decide_eq_true hi
    have ga := getD_mem hO.1.1 hi zerO
    refine ⟨⟨hO.1.1, hi⟩, dk_in hO, fun b j _ _ hI _ => ⟨fun hj => ?_, fun hj => dk_out hb hO.1.1 hi hI (of_decide_eq_false hj)⟩⟩
    have hj := of_decide_eq_true hj
    have gb := getD_mem hI.1.1 hj zerO
    obtain ⟨n0, n1, n2, n3, n4⟩ := dk_next hg hb hO.1.1 hi hI hj rfl
    refine ⟨⟨hI.1.1, hj⟩, frm_pre (hF _ ga) (hF _ gb), errO_ok.2 (hF _ ga), frm_pre (hF _ (hcl _ ga _ gb)) (hF _ (inv_in hg ga).1), trivial, fun _ => ⟨n1, n2, n3, n4⟩, fun q => absurd (of_decide_eq_false q) (by omega)⟩
  · obtain ⟨d1, d2⟩ := dk_end hg hO (of_decide_eq_false hi)
    exact ⟨d1, fun r hr => by rw [hr, d2, hg]⟩
theorem s_r6DocClasses : Sound Tryz.prog 18 C_r6DocClasses :=
  sound_of_eqs (fun x => env0 [(41, C_r5DocCheck.hid), (38, C_r6square.hid), (42, C_r6At.hid), (34, C_r3Mul.hid), (39, C_r3Back.hid), (40, C_r6cut.hid)] [(18, 6, { fix := [], vars := [(.itmp 5, .lists .bool), (.tmp 21, .int .i64)], inv := fun y v => dkO x.1 v.1 v.2.1, mu := fun y v => opMu x.1 v.2.1 }), (18, 9, { fix := [(.tmp 21, .int .i64)], vars := [(.itmp 5, .lists .bool), (.tmp 27, .int .i64)], inv := fun y v => dkI x.1 y.1 v.1 v.2.1, mu := fun y v => opMu x.1 v.2.1 })] []) (fun _ => rfl) (fun _ => env0_ok (.cons s_r5DocCheck.hid (.cons s_r6square.hid (.cons s_r6At.hid (.cons s_r3Mul.hid (.cons s_r3Back.hid (.cons s_r6cut.hid (.nil)))))))) (fun x => T_r6DocClasses x.1) r_r6DocClasses fun x ok hp => p_r6DocClasses x.1 ok.1
noncomputable def C_r6DocHeart : Contract := { args := [.list .op], res := [.list .op, .int .i64], pre := fun _ => True, F := fun x => ((heL x.1 : List Op3), (chkE x.1 : Int), ()) }
def T_r6DocHeart (g : List Op3) : Prop :=
  (True ∧
∀ z1 : List (List Int),
(z1 = clC g →
∀ z3 : Int,
(z3 = chkE g →
(((!(decide (z3 = 0))) = true →
 ([], (z3, ())) = (heL g, (chkE g, ()))) ∧
((!(decide (z3 = 0))) = false →
(dhO g [] 0 ∧
∀ z6 : List Op3,
∀ z7 : Int,
((decide ((-9223372036854775808) ≤ z7)) = true →
((decide (z7 ≤ 9223372036854775807)) = true →
(dhO g z6 z7 →
(lfit 96 z6 →
(((decide (z7 < (g.length : Int))) = true →
 (inB g z7 ∧
 (dhI g z7 z6 0 ∧
 ∀ z13 : List Op3,
 ∀ z14 : Int,
 ((decide ((-9223372036854775808) ≤ z14)) = true →
 ((decide (z14 ≤ 9223372036854775807)) = true →
 (dhI g z7 z13 z14 →
 (lfit 96 z13 →
 (((decide (z14 < (z1.length : Int))) = true →
  (inB z1 z14 ∧
  (((decide ((((z1.getD (z14).toNat [])).length : Int) = 1)) = true →
   (inB ((z1.getD (z14).toNat [])) 0 ∧
   (((decide ((((z1.getD (z14).toNat [])).getD 0 0) = z7)) = true →
    (lfit 96 (lapp z13 ([((g.getD (z7).toNat zerO))])) ∧
    (dhI g z7 (lapp z13 ([((g.getD (z7).toNat zerO))])) ((w64 (z14 + 1))) ∧
    ((decide (0 ≤ liMu (clC g) ((w64 (z14 + 1))))) = true ∧
    (decide (liMu (clC g) ((w64 (z14 + 1))) < liMu (clC g) z14)) = true)))) ∧
   ((decide ((((z1.getD (z14).toNat [])).getD 0 0) = z7)) = false →
   (dhI g z7 z13 ((w64 (z14 + 1))) ∧
   ((decide (0 ≤ liMu (clC g) ((w64 (z14 + 1))))) = true ∧
   (decide (liMu (clC g) ((w64 (z14 + 1))) < liMu (clC g) z14)) = true)))))) ∧
  ((decide ((((z1.getD (z14).toNat [])).length : Int) = 1)) = false →
  (dhI g z7 z13 ((w64 (z14 + 1))) ∧
  ((decide (0 ≤ liMu (clC g) ((w64 (z14 + 1))))) = true ∧
  (decide (liMu (clC g) ((w64 (z14 + 1))) < liMu (clC g) z14)) = true)))))) ∧
 ((decide (z14 < (z1.length : Int))) = false →
 (dhO g z13 ((w64 (z7 + 1))) ∧
 ((decide (0 ≤ opMu g ((w64 (z7 + 1))))) = true ∧
 (decide (opMu g ((w64 (z7 + 1))) < opMu g z7)) = true))))))))))) ∧
((decide (z7 < (g.length : Int))) = false →
(z6, (0, ())) = (heL g, (chkE g, ()))))))))))))))
theorem r_r6DocHeart (x : HL C_r6DocHeart.args) : runs (env0 [(18, C_r6DocClasses.hid)] [(16, 6, { fix := [], vars := [(.tmp 6, .list .op), (.tmp 21, .int .i64)], inv := fun y v => dhO x.1 v.1 v.2.1, mu := fun y v => opMu x.1 v.2.1 }), (16, 9, { fix := [(.tmp 21, .int .i64)], vars := [(.tmp 6, .list .op), (.tmp 28, .int .i64)], inv := fun y v => dhI x.1 y.1 v.1 v.2.1, mu := fun y v => liMu (clC x.1) v.2.1 })] []) 1500 16 C_r6DocHeart x = T_r6DocHeart x.1 := by kernel_rfl
theorem p_r6DocHeart (g : List Op3) (h0 : (Sh.list .op).okA g) : T_r6DocHeart g := by
  have hb : g.length * 96 ≤ room := h0.2
  unfold T_r6DocHeart
  refine ⟨trivial, fun cl hcl e he => ⟨fun q => ?_, fun q => ?_⟩⟩
  · have hne : chkE g ≠ 0 := by rw [← he]; simpa using q
    rw [show heL g = [] from if_neg hne, he]
  have hg : chkE g = 0 := by rw [← he]; simpa using q
  subst hcl
  refine ⟨dh_0 g, fun l i _ _ hO _ => ⟨fun hi => ?_, fun hi => by rw [dh_end hg hO (of_decide_eq_false hi), hg]⟩⟩
  have hi := of_decide_eq_true hi
  have i0 := hO.1.1
  refine ⟨⟨i0, hi⟩, dh_in hO, fun m j _ _ hI _ => ⟨fun hj => ?_, fun hj => dh_out hg hb i0 hi hI (of_decide_eq_false hj)⟩⟩
  have hj := of_decide_eq_true hj
  obtain ⟨n1, n2, n3, n4⟩ := dh_next hg i0 hi hI hj
  unfold dhC at n2 n3
  refine ⟨⟨hI.1.1, hj⟩, fun q => ⟨n1, fun q2 => ?_, fun q2 => ?_⟩, fun q => ?_⟩
  · have := n2 (by rw [q, q2]; rfl)
    exact ⟨this.1, this.2, n4⟩
  · exact ⟨n3 (by rw [q, q2]; rfl), n4⟩
  · exact ⟨n3 (by rw [q]; rfl), n4⟩
theorem s_r6DocHeart : Sound Tryz.prog 16 C_r6DocHeart :=
  sound_of_eqs (fun x => env0 [(18, C_r6DocClasses.hid)] [(16, 6, { fix := [], vars := [(.tmp 6, .list .op), (.tmp 21, .int .i64)], inv := fun y v => dhO x.1 v.1 v.2.1, mu := fun y v => opMu x.1 v.2.1 }), (16, 9, { fix := [(.tmp 21, .int .i64)], vars := [(.tmp 6, .list .op), (.tmp 28, .int .i64)], inv := fun y v => dhI x.1 y.1 v.1 v.2.1, mu := fun y v => liMu (clC x.1) v.2.1 })] []) (fun _ => rfl) (fun _ => env0_ok (.cons s_r6DocClasses.hid (.nil))) (fun x => T_r6DocHeart x.1) r_r6DocHeart fun x ok hp => p_r6DocHeart x.1 ok.1
end Go.Fx
